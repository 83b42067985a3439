/- Part 4 of the proof of orlop/orloptop.TopAnewStand: every call of the package puts the same twice, and changes no argument. Conditions: those of the statement, and no others. -/
import Derived.Test.YtpghfghcpffffaaGreatP3
import Derived.Test.YtpghfghcpffffaaGreatP2
import Derived.Deep.Slices
import Derived.Carry
import Derived.JoinedCond
namespace Go.Proofs.Orl
open Go
noncomputable section

def rowK:List HE→List HE
  | [] => []
  | x :: r => match x.b with
    | .row l => ⟨x.a,0,.row l⟩ :: rowK r
    | _ => rowK r
theorem rowK_mem {x:HE} : ∀ {h:List HE},x ∈ rowK h→∃ y ∈ h,∃ l,y.b=.row l∧x=⟨y.a,0,.row l⟩:=by
  intro h
  induction h with
  | nil => intro hx; cases hx
  | cons y r ih =>
    intro hx
    simp only [rowK] at hx
    split at hx
    · rename_i l hl
      rcases List.mem_cons.1 hx with rfl | hx
      · exact ⟨y,by simp,l,hl,rfl⟩
      · obtain ⟨z,z1,z2⟩:=ih hx; exact ⟨z,by simp [z1],z2⟩
    · obtain ⟨z,z1,z2⟩:=ih hx; exact ⟨z,by simp [z1],z2⟩
theorem rowK_nd {f:Nat→Nat} : ∀ {h:List HE},(h.map fun x => f x.a).Nodup→((rowK h).map fun x => f x.a).Nodup:=by
  intro h
  induction h with
  | nil => intro _; exact List.nodup_nil
  | cons y r ih =>
    intro hn
    simp only [List.map_cons,List.nodup_cons] at hn
    simp only [rowK]
    split
    · simp only [List.map_cons,List.nodup_cons]
      refine ⟨fun hm => hn.1 ?_,ih hn.2⟩
      obtain ⟨z,hz,he⟩:=List.mem_map.1 hm
      obtain ⟨w,w1,l,_,rfl⟩:=rowK_mem hz
      exact List.mem_map.2 ⟨w,w1,he⟩
    · exact ih hn.2
def rowsOK:List HE→List HE→Bool
  | [],_ => true
  | x :: r,h => (match x.b,fnd x.a h with
    | .row l,some y => (match y.b with
      | .row l' => eqLs l l'
      | _ => false)
    | _,_ => false) && rowsOK r h
theorem rowsOK_ok {h:List HE} : ∀ {kr:List HE},rowsOK kr h=true→∀ x ∈ kr,∃ l y l',x.b=.row l∧y ∈ h∧y.a=x.a∧y.b=.row l'∧eqLs l l' = true:=by
  intro kr
  induction kr with
  | nil => intro _ x hx; cases hx
  | cons z r ih =>
    intro hb x hx
    simp only [rowsOK,Bool.and_eq_true] at hb
    rcases List.mem_cons.1 hx with rfl | hx
    · obtain ⟨b1,_⟩:=hb
      split at b1 <;> try (cases b1; done)
      rename_i l y h1 h2
      split at b1 <;> try (cases b1; done)
      rename_i l' h3
      obtain ⟨q1,q2⟩:=fnd_ok h2
      exact ⟨l,y,l',h1,q1,q2,h3,b1⟩
    · exact ih hb.2 x hx
def fltD (d:DS) (s0:Ss) (kr:List HE) (ks:List Nat):Ss:={ nrmD d s0 with g:=pickT ks d.g,h:=kr,ap:=[],t:=[],w:=[],j:=true }
def cD (c:Cx) (D:SH):Cx:={ c with H0:=D,M:=fun _ => False,X:=fun _ => False,J:=fun _ _ => True }
section
variable {P:Program} {c:Cx} {r:Option Nat} {ops:Array Oper} {st:St} {e:En} {tt:Bt TI}
theorem cD_ok {D:SH} (h:D.B ≤ D.next) : (cD c D).OK:=⟨h,fun _ h => h.elim,fun _ h => h.elim,fun _ _ _ _ _ _ _ => trivial⟩
theorem keepH_B (H:SH) (xs:List Nat) : (keepH H xs).B=H.B:=by unfold SH.B; rw [keepH_old]
theorem PF.ok_cD {H:SH} (h:Le c.H0 H) {xs:List Nat} {x:PF} : x.ok (cD c (keepH H xs)) e ↔ x.ok c e:=by
  have hB : (keepH H xs).B=c.H0.B:=(keepH_B H xs).trans h.B
  have ho : (keepH H xs).old=c.H0.old:=(keepH_old H xs).trans h.old
  cases x <;> simp only [PF.ok,cD,hB,ho]
theorem satD {d:DS} {s0:Ss} (h:Sat c e (nrmD d s0) ⟨[],st.n,st.ds,st.H⟩) {gv:List (Nat × Value)} {ks:List Nat} (hg : ∀ t v,lkp (pickT ks d.g) t=some v→lk gv t=v.ev e) {kr:List HE} (hkr:kr=rowK s0.h∨kr=[]) :
    Sat (cD c (keepH st.H (kr.map fun x => e.n x.a))) e (fltD d s0 kr ks) ⟨gv,st.n,st.ds,keepH st.H (kr.map fun x => e.n x.a)⟩:=by
  have hle:Le c.H0 st.H:=h.le
  have hin : ∀ x ∈ kr,x.fl=0∧∃ l,x.b=.row l∧st.H.get (e.n x.a) = some (x.b.blk e)∧e.n x.a < st.H.next:=fun x hx => by
    rcases hkr with rfl | rfl
    · obtain ⟨y,y1,l,y2,rfl⟩:=rowK_mem hx
      have q:=h.h y y1
      exact ⟨rfl,l,rfl,by rw [q.get,y2],q.lt⟩
    · cases hx
  have hrow : ∀ n x,(keepH st.H (kr.map fun x => e.n x.a)).get n=some x→∃ l,x=.row l .raw:=fun n x hx => by
    obtain ⟨h1,h2⟩:=keepH_sub hx
    obtain ⟨y,y1,rfl⟩:=List.mem_map.1 h1
    obtain ⟨_,l,y2,y3,_⟩:=hin y y1
    rw [y3] at h2
    cases h2
    exact ⟨(evL e l).toArray,by rw [y2]; rfl⟩
  refine ⟨h.n,hg,h.ds,⟨by rw [keepH_B,keepH_next]; exact h.wt.base,fun n c0 e0 hx => ?_,fun n c0 e0 hx => ?_⟩,.refl _,.refl _ _,fun x hx => ?_,?_,fun _ hp => (by cases hp),fun _ hp => (by cases hp),.nil,fun _ hp => (by cases hp),fun _ hp => (by cases hp),h.f,trivial,fun x hx => (PF.ok_cD hle).2 (h.q x hx)⟩
  · obtain ⟨l,hl⟩:=hrow n _ hx; cases hl
  · obtain ⟨l,hl⟩:=hrow n _ hx; cases hl
  · obtain ⟨y1,l,y2,y3,y4⟩:=hin x hx
    refine ⟨?_,by rw [keepH_next]; exact y4,fun h => by omega,fun h => by omega,fun h => h⟩
    have hm:e.n x.a ∈ kr.map (fun x => e.n x.a):=List.mem_map.2 ⟨x,hx,rfl⟩
    rw [keepH_get,if_pos hm]; exact y3
  · show (kr.map fun x => e.n x.a).Nodup
    rcases hkr with rfl | rfl
    · exact rowK_nd h.nd
    · exact List.nodup_nil
theorem sn_extF {e' : En} {d d' : DS} {s0:Ss} {σ:St} (h:Sat c e (nrmD d s0) σ) (hb : (nrmD d s0).b=true) (ag:Ag d.k e e') (hf : ∀ l ∈ d'.f,0 ≤ l.ev e') (hq : ∀ x ∈ d'.q,x.ok c e'):Sat c e' (nrmD d' s0) σ:=by
  have h':=h.ext hb ag d'.k
  exact ⟨h'.n,h'.g,h'.ds,h'.wt,h'.le,h'.kp,h'.h,h'.nd,h'.ap,h'.apn,h'.apd,h'.t,h'.w,hf,h'.j,hq⟩
def fpD (d:DS) (i:Nat) (ks:List Nat) (o:Oper) (q:SV × Ss):DS:=⟨q.2.k,setG o.dst q.1 d.g,q.2.f,q.2.q,d.sn,⟨i,0,.pure,ks⟩ :: d.sp⟩
def isLit:Op→Bool
  | .buildSlice _ _ _ => true
  | _ => false
def fltG (tt:Bt TI) (ops:List Oper) (n:Nat) (κ:DS→Option (Nat × List Nat × Oper)→Sm→Option (List Ss × Sm)):List (Nat × List Nat × List Nat)→DS→Sm→Option (List Ss × Sm)
  | [],d,m => κ d none m
  | (i,ks,_) :: r,d,m => match ops[i]?,findS d.sn 0 with
    | some o,some (_,s) => bif dOk o n && (o.guard.isNone && (allP (fun p => (nrmD d p.2).b) d.sn && bG d.k d.g)) then
        (bif isLit o.op then (match r with
          | [] => κ d (some (i,ks,o)) m
          | _ => none)
        else (match kPu tt (fltD d s (rowK s.h) ks) o.op with
          | some l => bindS (fun q m => fltG tt ops n κ r (fpD d i ks o q) m) (bumpG upV 0 l) m
          | none => none))
        else none
    | _,_ => none
structure FOKD (P:Program) (r:Option Nat) (c:Cx) (ops:Array Oper) (st:St) (e:En) (d:DS) (Es:List CE) (fl:List Nat) (s0:Ss) (xs:List Nat):Prop where
  ok:DOK P r c ops st e d Es
  fl:FlOkN P r ops st fl (keepH st.H xs) Es
  z : ∃ a,findS d.sn 0=some (a,s0)
  xs : (rowK s0.h).map (fun x => e.n x.a) = xs
theorem rows_ag {k:Nat} {e e' : En} (ag:Ag k e e') : ∀ {kr:List HE},(∀ x ∈ kr,x.bd k=true)→kr.map (fun x => e'.n x.a) = kr.map (fun x => e.n x.a):=by
  intro kr
  induction kr with
  | nil => intro _; rfl
  | cons x r ih =>
    intro h
    have hx:=h x (by simp)
    simp only [HE.bd,Bool.and_eq_true] at hx
    simp only [List.map_cons,ih fun y hy => h y (by simp [hy]),ag.n _ (Nat.le_of_ble_eq_true hx.1)]
theorem rowK_bd {k:Nat} {h:List HE} (hb : ∀ x ∈ h,x.bd k=true) : ∀ x ∈ rowK h,x.bd k=true:=fun x hx => by
  obtain ⟨y,y1,l,y2,rfl⟩:=rowK_mem hx
  have:=hb y y1
  simp only [HE.bd,y2] at this ⊢
  exact this
theorem b_h {s:Ss} (h:s.b=true) : ∀ x ∈ s.h,x.bd s.k=true:=by
  simp only [Ss.b,Bool.and_eq_true] at h
  exact allP_ok h.1.1.1.1.1.2
def KafOK (P:Program) (r:Option Nat) (c:Cx) (ops:Array Oper) (st:St) (id:Nat) (fl:List Nat) (κ:DS→Option (Nat × List Nat × Oper)→Sm→Option (List Ss × Sm)):Prop:=∀ (d:DS) (fo:Option (Nat × List Nat × Oper)) (m:Sm) (out:List Ss) (m' : Sm),κ d fo m=some (out,m')→
  ∀ (e:En) (Es:List CE) (s0:Ss) (xs:List Nat),FOKD P r c ops st e d Es fl s0 xs→(∀ j ks o,fo=some (j,ks,o)→ops[j]? = some o∧dOk o st.n=true∧o.guard.isNone=true∧isLit o.op=true)→∀ (Q:Exit→St→Prop),(∀ st',Ots c e d.k out st'→Q .normal st')→W P r (.region id ops true) Q st
theorem flt_ok (ht:TOk P tt) (hc:c.OK) {n:Nat} (hst:st.n=n) {fl:List Nat} {id:Nat} {κ:DS→Option (Nat × List Nat × Oper)→Sm→Option (List Ss × Sm)} (hκ:KafOK P r c ops st id fl κ) {Q:Exit→St→Prop} {e0:En} {k0:Nat} : ∀ (l:List (Nat × List Nat × List Nat)) (d:DS) (m:Sm) (out:List Ss) (m' : Sm),fltG tt ops.toList n κ l d m=some (out,m')→
    ∀ (e:En) (Es:List CE) (s0:Ss) (xs:List Nat),FOKD P r c ops st e d Es fl s0 xs→k0 ≤ d.k→Ag k0 e0 e→(∀ st',Ots c e0 k0 out st'→Q .normal st')→W P r (.region id ops true) Q st:=by
  intro l
  induction l with
  | nil => exact fun d m out m' h e Es s0 xs hd hk ag hQ => hκ d none m out m' h e Es s0 xs hd (fun j ks o h => by cases h) Q fun st' ho => hQ st' (ho.mono hk ag fun _ h => h)
  | cons x l ih =>
    obtain ⟨i,ks,gs⟩:=x
    intro d m out m' h e Es s0 xs hd hk ag hQ
    simp only [fltG] at h
    split at h <;> try (cases h; done)
    rename_i o a s ho hf
    have ho' : ops[i]? = some o:=by simpa using ho
    obtain ⟨a',hz⟩:=hd.z
    rw [hf] at hz
    obtain ⟨rfl,rfl⟩ : a=a'∧s=s0:=by cases hz; exact ⟨rfl,rfl⟩
    cases hb : (dOk o n && (o.guard.isNone && (allP (fun p => (nrmD d p.2).b) d.sn && bG d.k d.g))) with
    | false => rw [hb] at h; cases h
    | true =>
      rw [hb,cond_true] at h
      simp only [Bool.and_eq_true] at hb
      obtain ⟨b1,b2,b3,b4⟩:=hb
      have b1:dOk o st.n=true:=by rw [hst]; exact b1
      cases hlit:isLit o.op with
      | true =>
        rw [hlit,cond_true] at h
        split at h <;> try (cases h; done)
        exact hκ d _ m out m' h e Es s xs hd (fun j ks o h => by cases h; exact ⟨ho',b1,b2,hlit⟩) Q fun st' ho => hQ st' (ho.mono hk ag fun _ h => h)
      | false =>
        rw [hlit,cond_false] at h
        split at h <;> try (cases h; done)
        rename_i ql hq
        obtain ⟨a2,s2,g1,g2,g3,g4⟩:=hd.ok.sn 0 (Nat.zero_le _)
        rw [hf] at g1; cases g1
        have ha0:a=0:=by omega
        subst ha0
        rw [hp_zero] at g4
        have hgp : ∀ t v,lkp (pickT ks d.g) t=some v→lk (pickG (genv ops st.g Es) ks) t=v.ev e:=fun t v hv => by
          obtain ⟨h1,h2⟩:=pickT_ok hv
          rw [lk_pick_mem ks h1]; exact hd.ok.g t v h2
        have hS:=satD g4 hgp (kr:=rowK s.h) (.inl rfl)
        rw [hd.xs] at hS
        have hbs:=allP_ok b3 _ (findS_mem hf)
        have hcD : (cD c (keepH st.H xs)).OK:=cD_ok (by rw [keepH_B,keepH_next]; exact g4.wt.base)
        obtain ⟨q,q1,e',q2,q3,q4,q5⟩:=kPu_ok ht hcD hS hq
        obtain ⟨d2,hm2⟩:=bumpG_mem (f:=upV) (n:=0) q1
        obtain ⟨n1,a',n2,c1,c2⟩:=bindS_ok h _ hm2
        have q2:d.k ≤ (upV d2 q).2.k:=Nat.le_trans q2 (up_le d2 q.2)
        have q3:Ag d.k e e':=q3
        have hw:wants ops (opSt ops st Es ks (keepH st.H xs)) o true:=wants_no b2
        have hS2:StepO P r ops i (opSt ops st Es ks (keepH st.H xs)) (q.1.ev e') (keepH st.H xs):=step_val ho' hw (dOk_spec b1) q4
        have hch:=ch_fltN hd.ok.ch (keepH_old _ _) (keepH_next _ _) (keepH_live _ _) (fun m x hx => (keepH_sub hx).2) hS2
        have hsn : ∀ p',p' ≤ Es.length→∃ b s',findS d.sn p' = some (b,s')∧b ≤ p'∧hp st.H Es p' = hp st.H Es b∧Sat c e' (nrmD (fpD d i ks o (upV d2 q)) s') ⟨[],st.n,st.ds,hp st.H Es b⟩:=fun p' hp' => by
          obtain ⟨b,s1,f1,f2,f3,f4⟩:=hd.ok.sn p' hp'
          exact ⟨b,s1,f1,f2,f3,sn_extF (d':=fpD d i ks o (upV d2 q)) f4 (allP_ok b3 _ (findS_mem f1)) q3 (fun l hl => q5.f l hl) fun x hx => (PF.ok_cD g4.le).1 (q5.q x hx)⟩
        have hD:DOK P r c ops st e' (fpD d i ks o (upV d2 q)) (⟨i,0,.pure,ks,q.1.ev e',hp st.H Es Es.length⟩ :: Es):=by
          obtain ⟨q0,sq,l0,hl0,hq0⟩:=hd.ok.hd
          refine ⟨hch,by simp [fpD,hd.ok.sp,CE.sp],setG_ok ho' fun t v hv => by rw [hd.ok.g t v hv,bG_lk b4 q3 hv],⟨q0,sq,l0,hl0,by simp; omega⟩,fun p' hp' => ?_⟩
          by_cases hle:p' ≤ Es.length
          · obtain ⟨b,s',f1,f2,f3,f4⟩:=hsn p' hle
            exact ⟨b,s',f1,f2,by rw [hp_cons hle,hp_cons (by omega)]; exact f3,by rw [hp_cons (by omega)]; exact f4⟩
          · have he:p' = Es.length + 1:=by simp at hp'; omega
            obtain ⟨b,s',f1,f2,f3,f4⟩:=hsn Es.length (Nat.le_refl _)
            have f1' : findS d.sn p' = some (b,s'):=by
              rw [hl0] at f1 ⊢
              simp only [findS] at f1 ⊢
              rw [show Nat.ble q0 Es.length=true from Nat.ble_eq_true_of_le hq0] at f1
              rw [show Nat.ble q0 p' = true from Nat.ble_eq_true_of_le (by omega)]
              exact f1
            exact ⟨b,s',f1',by omega,by rw [he,hp_top,hp_cons (by omega)]; exact f3,by rw [hp_cons (by omega)]; exact f4⟩
        refine ih _ _ _ _ c1 e' _ s xs ⟨hD,⟨fun _ => ⟨rfl,rfl,hS2⟩,hd.fl⟩,⟨0,hf⟩,?_⟩ (Nat.le_trans hk q2) (ag.trans (q3.le hk)) fun st' ho => hQ st' (ho.mono (Nat.le_refl _) (.refl _ _) c2)
        rw [← hd.xs]
        exact rows_ag q3 (rowK_bd (b_h hbs))

def nlf:Lf→Bool
  | .int _ _ => true
  | .bool _ => true
  | .str _ => true
  | _ => false
theorem nlf_ok {x:Lf} (h:nlf x=true):nameless (x.ev e) = true:=by cases x <;> first | rfl | cases h
def litK (tt:Bt TI) (s:Ss):Op→Option (List Lf × Nat × Nat)
  | .buildSlice t len ps => match tt.get t with
    | some i => match i.d with
      | .slice et => match tt.get et with
        | some ie => match ie.z,partK s ps.toList with
          | some zl,some l => match kLfs zl with
            | some z => bif Nat.ble (Nat.mul len ie.sz) 16777216 && Nat.blt 0 (Nat.mul len ie.sz) then (match fillK (fun j => some (j * ie.sz,ie.sz)) (repK z len) l with
              | some cs => bif Nat.beq cs.length (Nat.mul len ie.sz) && allB nlf cs then some (cs,len,ie.sz) else none
              | none => none) else none
            | none => none
          | _,_ => none
        | none => none
      | _ => none
    | none => none
  | _ => none
theorem litK_ok (ht:TOk P tt) {o:Oper} {s:Ss} {S:St} (h:Sat c e s S) {cs:List Lf} {len z:Nat} (hl:litK tt s o.op=some (cs,len,z)):OpV P o S (.slice (some ⟨S.H.next,0,none⟩) len z) (S.H.new (.row (evL e cs).toArray .raw))∧0 < len∧allB nlf cs=true:=by
  unfold litK at hl
  split at hl <;> try (cases hl; done)
  rename_i t len' ps ho
  split at hl <;> try (cases hl; done)
  rename_i i h1
  split at hl <;> try (cases hl; done)
  rename_i et hd
  split at hl <;> try (cases hl; done)
  rename_i ie h2
  split at hl <;> try (cases hl; done)
  rename_i zl l h3 h4
  split at hl <;> try (cases hl; done)
  rename_i zz h5
  have hu:=hd ▸ (ht t i h1).d
  have hs:=(ht et ie h2).sz
  obtain ⟨z1,z2,z3,z4⟩:=(ht et ie h2).z zl h3
  obtain ⟨vs,w1,w2⟩:=partK_ok h h4
  have ez:=kLfs_ev e h5
  cases hb : (Nat.ble (Nat.mul len' ie.sz) 16777216 && Nat.blt 0 (Nat.mul len' ie.sz)) with
  | false => rw [hb] at hl; cases hl
  | true =>
    rw [hb,cond_true] at hl
    simp only [Bool.and_eq_true] at hb
    split at hl <;> try (cases hl; done)
    rename_i cs' h6
    cases hl2 : (Nat.beq cs'.length (Nat.mul len' ie.sz) && allB nlf cs') with
    | false => rw [hl2] at hl; cases hl
    | true =>
      rw [hl2,cond_true] at hl
      cases hl
      simp only [Bool.and_eq_true] at hl2
      have ho' : o.op=.buildSlice t len ps.toList.toArray:=by simpa using ho
      have hzne:zl ≠ []:=by
        rintro rfl
        have:ie.sz=0:=by simpa using z4.symm
        rw [this] at hb; simp at hb
      have hf:=fillK_ok w2 h6
      rw [repK_ev,ez] at hf
      have hr:=repl_eq zl hzne len
      rw [z4] at hr
      refine ⟨opv_buildSliceE (P:=P) (s:=S) ho' w1 hu hs z1 z2 hb.1 hb.2 (by rw [← z4,← z3]; simp) (by rw [z3,hr]; exact hf) (by simpa [evL] using hl2.1),?_,hl2.2⟩
      have:=Nat.le_of_ble_eq_true hb.2
      rcases Nat.eq_zero_or_pos len with h | h
      · subst h; simp at this
      · exact h

abbrev FaD:=Nat × List Lf × Nat × Nat × Nat
def litS (s:Ss) (cs:List Lf) (len z t:Nat):Ss:={ s with k:=s.k + 1,h:=⟨s.k,2,.row cs⟩ :: s.h,g:=(t,.lf (.sl s.k 0 len z)) :: s.g }
theorem litS_ok (hc:c.OK) {e0 e1:En} {k0:Nat} {cs:List Lf} {len z t:Nat} (hcs:bL k0 cs=true) {s1:Ss} {S1:St} (hs:Sat c e1 s1 S1) (hbb:s1.b=true) (hk:k0 ≤ s1.k) (ag:Ag k0 e0 e1) (j:Nat) :
    Ag s1.k e1 (e1.one s1.k 0 undef S1.H.next)∧Sat c (e1.one s1.k 0 undef S1.H.next) (litS s1 cs len z t) (outS (some j) t len z (.row (evL e0 cs).toArray .raw) S1):=by
  have ag1:=ag_one e1 s1.k 0 undef S1.H.next
  have h':=hs.ext hbb ag1 (s1.k + 1)
  have f:=newF S1.H (.row (evL e0 cs).toArray .raw)
  have hev:evL (e1.one s1.k 0 undef S1.H.next) cs=evL e0 cs:=by
    rw [bL_ev ((ag.trans (ag1.le hk)):Ag k0 e0 _) hcs]
  have h2:=h'.new hc (x:=⟨s1.k,2,.row cs⟩) (H':=S1.H.new (.row (evL e0 cs).toArray .raw)) (hs.wt.raw f) (by simp only [HK.blk,hev]; exact f) (one_n ..) rfl
  refine ⟨ag1,?_⟩
  refine h2.nog (gv:=(t,.slice (some ⟨S1.H.next,0,none⟩) len z) :: S1.g) fun u v hv => ?_
  rw [lkp_cons] at hv
  rw [lk_cons]
  by_cases hu:t=u
  · simp only [hu,if_true,Option.some.injEq] at hv ⊢
    subst hv
    simp [SV.ev,Lf.ev,one_n]
  · simp only [hu,if_false] at hv ⊢
    exact h2.g u v hv
def impL (ops:List Oper) (g2:List (Nat × SV)) (mi:Nat):List Nat→List (Nat × SV)→Option (List (Nat × SV) × List Nat)
  | [],g => some (g,[])
  | j :: r,g => match impL ops g2 mi r g with
    | none => none
    | some (g',rem) => bif bitN mi j then (match ops[j]? with
        | some o => (match o.dst with
          | some t => (match lkp g2 t with
            | some v => some ((t,v) :: g',rem)
            | none => none)
          | none => none)
        | none => none) else some (g',j :: rem)
theorem impL_ok {g2:List (Nat × SV)} {gv:List (Nat × Value)} {ms fl:List Nat} (c1:ckMs ops ms=true) {i:Nat} (hi:i < ops.size) {e1:En} (hg2 : ∀ t v,lkp g2 t=some v→lk gv t=v.ev e1) {K:SH→Prop} {t len z:Nat} {x:SBlk} {p:Option Nat} {l:List Nat} {n:Nat} {ds:List Deferred} {H:SH} {gS:List (Nat × Value)} :
    ∀ (im:List Nat) (g g' : List (Nat × SV)) (rem:List Nat),impL ops.toList g2 (ms.getD i 0) im g=some (g',rem)→(∀ j ∈ im,j ∈ fl)→(∀ t v,lkp g t=some v→lk gS t=v.ev e1)→∃ gS',(∀ t v,lkp g' t=some v→lk gS' t=v.ev e1)∧(∀ j ∈ rem,j ∈ fl)∧
      (∀ p' S',Tl1 P r ops K (lk gv) fl t len z x p (i :: l) ⟨gS',n,ds,H⟩ p' S'→Tl1 P r ops K (lk gv) fl t len z x p (i :: l) ⟨gS,n,ds,H⟩ p' S'):=by
  intro im
  induction im with
  | nil => intro g g' rem h _ hg; cases h; exact ⟨gS,hg,by simp,fun _ _ h => h⟩
  | cons j im ih =>
    intro g g' rem h him hg
    simp only [impL] at h
    split at h <;> try (cases h; done)
    rename_i g1 rem1 h1
    obtain ⟨gS1,k1,k2,k3⟩:=ih g g1 rem1 h1 (fun j hj => him j (by simp [hj])) hg
    cases hb:bitN (ms.getD i 0) j with
    | false =>
      rw [hb,cond_false] at h
      cases h
      exact ⟨gS1,k1,fun k hk => by rcases List.mem_cons.1 hk with rfl | hk; exact him k (by simp); exact k2 k hk,k3⟩
    | true =>
      rw [hb,cond_true] at h
      split at h <;> try (cases h; done)
      rename_i o ho
      split at h <;> try (cases h; done)
      rename_i u hu
      split at h <;> try (cases h; done)
      rename_i v hv
      cases h
      have ho' : ops[j]? = some o:=by simpa using ho
      refine ⟨(u,lk gv u) :: gS1,fun t w hw => ?_,k2,fun p' S' hT => k3 p' S' (.imp j u (him j (by simp)) (by simp [dstOf,ho',hu]) (mask_reach c1 i hi j (by rw [← bitN_eq]; exact hb)) hT)⟩
      rw [lkp_cons] at hw
      rw [lk_cons]
      by_cases e:u=t
      · subst e
        simp only [if_true,Option.some.injEq] at hw ⊢
        subst hw; exact hg2 _ _ hv
      · simp only [e,if_false] at hw ⊢
        exact k1 t w hw
def impP (mi:Nat) (pd:Option FaD) (s:Ss):Option (Option FaD × Ss):=match pd with
  | none => some (none,s)
  | some (j,cs,len,z,t) => bif bitN mi j then (bif s.b then some (none,litS s cs len z t) else none) else some (some (j,cs,len,z,t),s)
def tl1G (tt:Bt TI) (ops:List Oper) (n:Nat) (ms:List Nat) (g2:List (Nat × SV)) (kr:List HE) (κ:Option FaD→Ss→Sm→Option (List Ss × Sm)):List Nat→List Nat→Option FaD→Ss→Sm→Option (List Ss × Sm)
  | [],_,pd,s,m => κ pd s m
  | i :: r,im,pd,s,m => match ops[i]?,impL ops g2 (ms.getD i 0) im s.g with
    | some o,some (g,im) => bif dOk o n && o.guard.isNone then (match impP (ms.getD i 0) pd { s with g:=g } with
        | some (pd,s) => (match kOp tt s o.op with
          | some l => bindS (fun q m => bif rowsOK kr q.2.h then tl1G tt ops n ms g2 kr κ r im pd (setK q.2 o.dst q.1) m else none) (bumpG upV 0 l) m
          | none => none)
        | none => none) else none
    | _,_ => none
def PdOK (cs:List Lf) (len z t:Nat) (pd:Option FaD) (p:Option Nat):Prop:=(pd=none∧p=none)∨∃ j,p=some j∧pd=some (j,cs,len,z,t)
theorem tl1G_ok (ht:TOk P tt) (hc:c.OK) {n:Nat} {kr:List HE} {e0:En} {k0:Nat} {ms fl:List Nat} (c1:ckMs ops ms=true) {g2:List (Nat × SV)} {gv:List (Nat × Value)} (hbg:bG k0 g2=true) (hg2 : ∀ t v,lkp g2 t=some v→lk gv t=v.ev e0) {cs:List Lf} {len z t:Nat} (hcs:bL k0 cs=true)
    (hkr : ∀ x ∈ kr,x.bd k0=true) (hkg : ∀ x ∈ kr,st.H.get (e0.n x.a) = some (x.b.blk e0)) {κ:Option FaD→Ss→Sm→Option (List Ss × Sm)} {G:Prop} {outA:List Ss} : ∀ (l im:List Nat) (pd:Option FaD) (s:Ss) (m:Sm) (out:List Ss) (m' : Sm),tl1G tt ops.toList n ms g2 kr κ l im pd s m=some (out,m')→(∀ j ∈ im,j ∈ fl)→
    ∀ (p:Option Nat),PdOK cs len z t pd p→∀ (e:En) (S:St),S.n=n→Sat c e s S→k0 ≤ s.k→Ag k0 e0 e→(∀ y ∈ out,y ∈ outA)→
      (∀ (pd1:Option FaD) (p1:Option Nat) (s1:Ss) (m1:Sm) (out1:List Ss) (m1' : Sm) (e1:En) (S1:St),κ pd1 s1 m1=some (out1,m1')→PdOK cs len z t pd1 p1→Sat c e1 s1 S1→k0 ≤ s1.k→Ag k0 e0 e1→S1.n=n→(∀ y ∈ out1,y ∈ outA)→
        Tl1 P r ops (fun H' => ∀ n x,st.H.get n=some x→¬ (keepH st.H (kr.map fun x => e0.n x.a)).get n=none→H'.get n=some x) (lk gv) fl t len z (.row (evL e0 cs).toArray .raw) p l S p1 S1→G)→G:=by
  intro l
  induction l with
  | nil => exact fun im pd s m out m' h him p hp e S hn hs hk ag ho hG => hG pd p s m out m' e S h hp hs hk ag hn ho (.nil p S)
  | cons i l ih =>
    intro im pd s m out m' h him p hp e S hn hs hk ag ho hG
    simp only [tl1G] at h
    split at h <;> try (cases h; done)
    rename_i o g1 im1 hop himp
    have ho' : ops[i]? = some o:=by simpa using hop
    have hi:i < ops.size:=(Array.getElem?_eq_some_iff.1 ho').1
    cases hb : (dOk o n && o.guard.isNone) with
    | false => rw [hb] at h; cases h
    | true =>
      rw [hb,cond_true] at h
      simp only [Bool.and_eq_true] at hb
      split at h <;> try (cases h; done)
      rename_i pd1 s0 hip
      split at h <;> try (cases h; done)
      rename_i ql hq
      have hg2e : ∀ t v,lkp g2 t=some v→lk gv t=v.ev e:=fun t v hv => by rw [hg2 t v hv,bG_lk hbg ag hv]
      -- what is brought in
      have key : ∀ (gS' : List (Nat × Value)),(∀ t v,lkp g1 t=some v→lk gS' t=v.ev e)→(∀ p' S',Tl1 P r ops (fun H' => ∀ n x,st.H.get n=some x→¬ (keepH st.H (kr.map fun x => e0.n x.a)).get n=none→H'.get n=some x) (lk gv) fl t len z (.row (evL e0 cs).toArray .raw) p (i :: l) ⟨gS',S.n,S.ds,S.H⟩ p' S'→Tl1 P r ops (fun H' => ∀ n x,st.H.get n=some x→¬ (keepH st.H (kr.map fun x => e0.n x.a)).get n=none→H'.get n=some x) (lk gv) fl t len z (.row (evL e0 cs).toArray .raw) p (i :: l) S p' S')→
          (∀ j ∈ im1,j ∈ fl)→G:=by
        intro gS' hgS' hTl him1
        have hs1:Sat c e { s with g:=g1 } ⟨gS',S.n,S.ds,S.H⟩:=hs.nog hgS'
        have key2 : ∀ (e1:En) (S0:St) (p1:Option Nat),PdOK cs len z t pd1 p1→Sat c e1 s0 S0→k0 ≤ s0.k→Ag k0 e0 e1→S0.n=n→(∀ p' S',Tl1 P r ops (fun H' => ∀ n x,st.H.get n=some x→¬ (keepH st.H (kr.map fun x => e0.n x.a)).get n=none→H'.get n=some x) (lk gv) fl t len z (.row (evL e0 cs).toArray .raw) p1 (i :: l) S0 p' S'→
            Tl1 P r ops (fun H' => ∀ n x,st.H.get n=some x→¬ (keepH st.H (kr.map fun x => e0.n x.a)).get n=none→H'.get n=some x) (lk gv) fl t len z (.row (evL e0 cs).toArray .raw) p (i :: l) S p' S')→G:=by
          intro e1 S0 p1 hp1 hs0 hk0 ag0 hn0 hTl0
          obtain ⟨q,q1,e',H',q2,q3,q4,q5,_⟩:=kOp_ok ht hc hs0 _ hq
          obtain ⟨d2,hm2⟩:=bumpG_mem (f:=upV) (n:=0) q1
          obtain ⟨n1,a',n2,c1',c2⟩:=bindS_ok h _ hm2
          cases hr:rowsOK kr (upV d2 q).2.h with
          | false => rw [hr] at c1'; cases c1'
          | true =>
            rw [hr,cond_true] at c1'
            have q5:Sat c e' (upV d2 q).2 { S0 with H:=H' }:=q5.upk (n:=d2)
            have hk' : k0 ≤ (upV d2 q).2.k:=Nat.le_trans hk0 (Nat.le_trans q2 (up_le d2 q.2))
            have ag' : Ag k0 e0 e':=ag0.trans (q3.le hk0)
            have hd:dOk o S0.n=true:=by rw [hn0]; exact hb.1
            have hst:StepO P r ops i S0 ((upV d2 q).1.ev e') H':=step_val ho' (wants_no hb.2) (dOk_spec hd) q4
            have hset:=q5.set o.dst (upV d2 q).1
            have hK : ∀ n x,st.H.get n=some x→¬ (keepH st.H (kr.map fun x => e0.n x.a)).get n=none→H'.get n=some x:=fun n x hx hne => by
              obtain ⟨zz,hz⟩:=Option.ne_none_iff_exists'.1 hne
              obtain ⟨h1,h2⟩:=keepH_sub hz
              obtain ⟨y,y1,rfl⟩:=List.mem_map.1 h1
              obtain ⟨lr,y',lr',z1,z2,z3,z4,z5⟩:=rowsOK_ok hr y y1
              have hg:=(q5.h y' z2).get
              have hg0:=hkg y y1
              have hbd:=hkr y y1
              simp only [HE.bd,z1,HK.b,Bool.and_eq_true] at hbd
              rw [z3,ag'.n _ (Nat.le_of_ble_eq_true hbd.1),z4] at hg
              have hg:H'.get (e0.n y.a) = some ((HK.row lr').blk e'):=hg
              rw [hg0] at hx
              cases hx
              rw [hg,z1]
              simp only [HK.blk,eqLs_ok z5 ▸ bL_ev ag' hbd.2]
            have hdi:dstOf ops i=o.dst:=by simp [dstOf,ho']
            refine ih im1 pd1 _ _ _ _ c1' him1 p1 hp1 e' _ ?_ hset (by rw [setK_k]; exact hk') ag' (fun y hy => ho y (c2 y hy)) fun pd2 p2 s1 m1 out1 m1' e1 S1 k1 k1' k2 k3 k4 k5 k7 k8 => hG pd2 p2 s1 m1 out1 m1' e1 S1 k1 k1' k2 k3 k4 k5 k7 (hTl0 _ _ (.cons hst hK (by rw [hdi]; exact k8)))
            rw [put_nS]; exact hn0
        -- the literal
        rcases hp with ⟨rfl,rfl⟩ | ⟨j,rfl,rfl⟩
        · cases hip
          exact key2 e _ none (.inl ⟨rfl,rfl⟩) hs1 hk ag hn hTl
        · simp only [impP] at hip
          cases hbn:bitN (ms.getD i 0) j with
          | false =>
            rw [hbn,cond_false] at hip
            cases hip
            exact key2 e _ (some j) (.inr ⟨j,rfl,rfl⟩) hs1 hk ag hn hTl
          | true =>
            rw [hbn,cond_true] at hip
            cases hbb : ({ s with g:=g1 } : Ss).b with
            | false => rw [hbb] at hip; cases hip
            | true =>
              rw [hbb,cond_true] at hip
              cases hip
              obtain ⟨l1,l2⟩:=litS_ok (len:=len) (z:=z) (t:=t) hc hcs hs1 hbb hk ag j
              exact key2 _ _ none (.inl ⟨rfl,rfl⟩) l2 (Nat.le_trans hk (Nat.le_succ _)) (ag.trans (l1.le hk)) hn fun p' S' hT => hTl p' S' (.impA j (mask_reach c1 i hi j (by rw [← bitN_eq]; exact hbn)) hT)
      obtain ⟨gS',k1,k2,k3⟩:=impL_ok (P:=P) (r:=r) (fl:=fl) c1 hi hg2e (K:=fun H' => ∀ n x,st.H.get n=some x→¬ (keepH st.H (kr.map fun x => e0.n x.a)).get n=none→H'.get n=some x) (t:=t) (len:=len) (z:=z) (x:=.row (evL e0 cs).toArray .raw) (p:=p) (l:=l) (n:=S.n) (ds:=S.ds) (H:=S.H) (gS:=S.g) im s.g g1 im1 himp him hs.g
      exact key gS' k1 k3 k2
def delT (ks:List Nat):List (Nat × SV)→List (Nat × SV)
  | [] => []
  | (t,v) :: r => bif memN t ks then delT ks r else (t,v) :: delT ks r
theorem delT_ok {ks:List Nat} {t:Nat} {v:SV} : ∀ {g:List (Nat × SV)},lkp (delT ks g) t=some v→memN t ks=false∧lkp g t=some v:=by
  intro g
  induction g with
  | nil => intro h; cases h
  | cons p r ih =>
    obtain ⟨u,w⟩:=p
    intro h
    simp only [delT] at h
    rw [lkp_cons]
    cases hb:memN u ks with
    | false =>
      rw [hb,cond_false,lkp_cons] at h
      by_cases hu:u=t
      · simp only [hu,if_true] at h ⊢; exact ⟨hu ▸ hb,h⟩
      · simp only [hu,if_false] at h ⊢; exact ih h
    | true =>
      rw [hb,cond_true] at h
      obtain ⟨h1,h2⟩:=ih h
      by_cases hu:u=t
      · subst hu; rw [h1] at hb; cases hb
      · simp only [hu,if_false]; exact ⟨h1,h2⟩
theorem lkp_app {α:Type} {t:Nat} {v:α} : ∀ {a b:List (Nat × α)},lkp (a++b) t=some v→lkp a t=some v∨lkp b t=some v:=by
  intro a
  induction a with
  | nil => exact fun h => .inr h
  | cons p r ih =>
    obtain ⟨u,w⟩:=p
    intro b h
    rw [List.cons_append,lkp_cons] at h
    rw [lkp_cons]
    by_cases hu:u=t
    · simp only [hu,if_true] at h ⊢; exact .inl h
    · simp only [hu,if_false] at h ⊢; exact ih h
def dsts (ops:List Oper):List Nat→List Nat
  | [] => []
  | j :: l => match ops[j]? with
    | some o => (match o.dst with
      | some t => t :: dsts ops l
      | none => dsts ops l)
    | none => dsts ops l
theorem dsts_ok {t:Nat} : ∀ {l:List Nat},t ∈ dsts ops.toList l ↔ ∃ j ∈ l,dstOf ops j=some t:=by
  intro l
  induction l with
  | nil => simp [dsts]
  | cons j l ih =>
    have e0:ops.toList[j]? = ops[j]?:=by simp
    simp only [dsts,e0]
    cases hj:ops[j]? with
    | none => simp [ih,dstOf,hj]
    | some o =>
      simp only []
      cases hd:o.dst with
      | none => simp only [ih,List.mem_cons,exists_eq_or_imp]; simp [dstOf,hj,hd]
      | some u => simp only [ih,List.mem_cons,exists_eq_or_imp]; simp [dstOf,hj,hd,eq_comm]
def finG (tt:Bt TI) (cl:CallT) (ops:List Oper) (n:Nat) (tl2 fd:List Nat) (g2:List (Nat × SV)) (pd:Option FaD) (s:Ss) (m:Sm):Option (List Ss × Sm):=match pd with
  | none => rgn tt cl ops n tl2 { s with g:=pickT fd g2++delT fd s.g } m
  | some (_,cs,len,z,t) => bif ({ s with g:=pickT fd g2++delT fd s.g } : Ss).b then rgn tt cl ops n tl2 (litS { s with g:=pickT fd g2++delT fd s.g } cs len z t) m else none
def spanB (p:Nat→Bool):List Nat→List Nat × List Nat
  | [] => ([],[])
  | x :: r => bif p x then (x :: (spanB p r).1,(spanB p r).2) else ([],x :: r)
def faLG (o:Option (Nat × List Nat × Oper)):Option Nat:=o.map (·.1)
def endG (tt:Bt TI) (cl:CallT) (ops:Array Oper) (n:Nat) (ms flp tl1 tl2 ks0 ts:List Nat) (d:DS) (fo:Option (Nat × List Nat × Oper)) (m:Sm):Option (List Ss × Sm):=match findS d.sn d.sp.length,findS d.sn 0 with
  | some (_,s),some (_,s0) => bif ckSetN ops ms (d.sp.map (·.i)) flp tl1 tl2 (faL (faLG fo)) ks0 && (ckAllS ops.toList ms (d.sp.map (·.i)) d.sp && (ckFlS ops flp tl1 d.sp && (allP (fun p => (nrmD d p.2).b) d.sn && bG d.k d.g))) then (match fo with
      | none => tl1G tt ops.toList n ms d.g (rowK s0.h) (finG tt cl ops.toList n tl2 (dsts ops.toList flp) d.g) tl1 flp none { nrmD d s with g:=pickT ks0 d.g } m
      | some (j,ks,o) => match litK tt (fltD d s0 [] ks) o.op,o.dst with
        | some (cs,len,z),some t => bif bL d.k cs && (memN t ts && ks.all fun u => ckTmpS ops.toList (ms.getD j 0) (d.sp.map (·.i)) 0 d.sp u && tl1.all fun x => !(dstOf ops x == some u)) then
            tl1G tt ops.toList n ms d.g (rowK s0.h) (finG tt cl ops.toList n tl2 (dsts ops.toList flp) d.g) tl1 flp (some (j,cs,len,z,t)) { nrmD d s with g:=pickT ks0 d.g } m else none
        | _,_ => none) else none
  | _,_ => none
theorem end_sat {flp:List Nat} {g2:List (Nat × SV)} {gv:List (Nat × Value)} {s1:Ss} {S1:St} {e0 e1:En} {k0:Nat} (hs:Sat c e1 s1 S1) (ag:Ag k0 e0 e1) (hb:bG k0 g2=true) (hg2 : ∀ t v,lkp g2 t=some v→lk gv t=v.ev e0) {g:List (Nat × Value)}
    (hg : ∀ u,((∀ j ∈ flp,dstOf ops j ≠ some u)∧lk g u=lk S1.g u)∨((∃ j ∈ flp,dstOf ops j=some u)∧lk g u=lk gv u)):Sat c e1 { s1 with g:=pickT (dsts ops.toList flp) g2++delT (dsts ops.toList flp) s1.g } ⟨g,S1.n,S1.ds,S1.H⟩:=by
  refine hs.nog (gv:=g) fun t v hv => ?_
  rcases lkp_app hv with h | h
  · obtain ⟨h1,h2⟩:=pickT_ok h
    obtain ⟨j,j1,j2⟩:=dsts_ok.1 h1
    rcases hg t with ⟨h3,_⟩ | ⟨_,h3⟩
    · exact absurd j2 (h3 j j1)
    · rw [h3,hg2 t v h2,bG_lk hb ag h2]
  · obtain ⟨h1,h2⟩:=delT_ok h
    rcases hg t with ⟨_,h3⟩ | ⟨⟨j,j1,j2⟩,_⟩
    · rw [h3]; exact hs.g t v h2
    · have:=memN_of (dsts_ok.2 ⟨j,j1,j2⟩)
      rw [this] at h1; cases h1
theorem finG_ok (ht:TOk P tt) (hc:c.OK) {cl:CallT} (hcl:CallOK P c cl) {n:Nat} (hn:c.n=n) {tl2 flp:List Nat} {g2:List (Nat × SV)} {gv:List (Nat × Value)} {e0 e1:En} {k0:Nat} (hb:bG k0 g2=true) (hg2 : ∀ t v,lkp g2 t=some v→lk gv t=v.ev e0) (ag:Ag k0 e0 e1)
    {p:Option Nat} {pd:Option FaD} {cs:List Lf} {len z t:Nat} (hp:PdOK cs len z t pd p) (hcs:bL k0 cs=true) {s1:Ss} (hk:k0 ≤ s1.k) {m:Sm} {out:List Ss} {m' : Sm} (h:finG tt cl ops.toList n tl2 (dsts ops.toList flp) g2 pd s1 m=some (out,m')) {S1:St} (hs:Sat c e1 s1 S1)
    {Q:Exit→St→Prop} (hQ : ∀ st',Ots c e1 s1.k out st'→Q .normal st') {g:List (Nat × Value)} (hg : ∀ u,((∀ j ∈ flp,dstOf ops j ≠ some u)∧lk g u=lk S1.g u)∨((∃ j ∈ flp,dstOf ops j=some u)∧lk g u=lk gv u)) :
    WO P r ops tl2 Q (outS p t len z (.row (evL e0 cs).toArray .raw) ⟨g,S1.n,S1.ds,S1.H⟩):=by
  have hS:=end_sat hs ag hb hg2 hg
  rcases hp with ⟨rfl,rfl⟩ | ⟨j,rfl,rfl⟩
  · exact rgn_ok ht hc hcl hn tl2 _ m e1 _ out m' h hS hQ
  · simp only [finG] at h
    cases hbb : ({ s1 with g:=pickT (dsts ops.toList flp) g2++delT (dsts ops.toList flp) s1.g } : Ss).b with
    | false => rw [hbb] at h; cases h
    | true =>
      rw [hbb,cond_true] at h
      obtain ⟨l1,l2⟩:=litS_ok (len:=len) (z:=z) (t:=t) hc hcs hS hbb hk ag j
      exact rgn_ok ht hc hcl hn tl2 _ m _ _ out m' h l2 fun st' ho => hQ st' (ho.mono (Nat.le_succ _) l1 fun _ h => h)
theorem endG_ok (ht:TOk P tt) (hc:c.OK) (hm:P.follows .mixedOrders=true) {cl:CallT} (hcl:CallOK P c cl) {n:Nat} (hn:c.n=n) (hst:st.n=n) {ms flp tl1 tl2 ks0 ts:List Nat} (hun : ∀ t ∈ ts,lk st.g t=undef) {id:Nat} : KafOK P r c ops st id flp (endG tt cl ops n ms flp tl1 tl2 ks0 ts):=by
  intro d fo m out m' h e Es s0 xs hd hfo Q hQ
  unfold endG at h
  split at h <;> try (cases h; done)
  rename_i a s a0 s0' hf hf0
  obtain ⟨a0',hz⟩:=hd.z
  rw [hf0] at hz
  obtain ⟨rfl,rfl⟩ : a0=a0'∧s0' = s0:=by cases hz; exact ⟨rfl,rfl⟩
  cases hb : (ckSetN ops ms (d.sp.map (·.i)) flp tl1 tl2 (faL (faLG fo)) ks0 && (ckAllS ops.toList ms (d.sp.map (·.i)) d.sp && (ckFlS ops flp tl1 d.sp && (allP (fun p => (nrmD d p.2).b) d.sn && bG d.k d.g)))) with
  | false => rw [hb] at h; cases h
  | true =>
    rw [hb,cond_true] at h
    simp only [Bool.and_eq_true] at hb
    obtain ⟨b1,b2,b3,b4,b5⟩:=hb
    have hi:d.sp.map (·.i) = Es.map (·.i):=by rw [hd.ok.sp,List.map_map]; rfl
    have hl:d.sp.length=Es.length:=by rw [hd.ok.sp,List.length_map]
    rw [hi] at b1 b2
    rw [hd.ok.sp] at b2 b3
    rw [ckFlS_eq] at b3
    rw [hl] at hf
    have b2:=ckAllS_eq _ _ _ _ b2
    obtain ⟨a2,s2,g1,g2,g3,g4⟩:=hd.ok.sn Es.length (Nat.le_refl _)
    rw [hf] at g1; cases g1
    have hS:Sat c e { nrmD d s with g:=pickT ks0 d.g } ⟨pickG (genv ops st.g Es) ks0,st.n,st.ds,hp st.H Es Es.length⟩:=inD_ok hd.ok g4 g3
    obtain ⟨a3,s3,f1,f2,f3,f4⟩:=hd.ok.sn 0 (Nat.zero_le _)
    rw [hf0] at f1; cases f1
    have:a0=0:=by omega
    subst this
    rw [hp_zero] at f4
    have hkg : ∀ x ∈ rowK s0'.h,st.H.get (e.n x.a) = some (x.b.blk e):=fun x hx => by
      obtain ⟨y,y1,l,y2,rfl⟩:=rowK_mem hx
      rw [(f4.h y y1).get,y2]
    have hkr : ∀ x ∈ rowK s0'.h,x.bd d.k=true:=rowK_bd (b_h (allP_ok b4 _ (findS_mem hf0)))
    have hgv : ∀ t v,lkp d.g t=some v→lk (genv ops st.g Es) t=v.ev e:=hd.ok.g
    have c1:ckMs ops ms=true:=by
      have:=b1
      simp only [ckSetN,Bool.and_eq_true] at this
      exact this.1.1.1.1.1.1.1.1.1.1
    cases fo with
    | none =>
      refine tl1G_ok (r:=r) (cs:=[]) (len:=0) (z:=0) (t:=0) ht hc (e0:=e) (k0:=d.k) c1 b5 hgv rfl hkr hkg (G:=W P r (.region id ops true) Q st) (outA:=out) tl1 flp none _ m out m' h (fun _ h => h) none (.inl ⟨rfl,rfl⟩) e ⟨pickG (genv ops st.g Es) ks0,st.n,st.ds,hp st.H Es Es.length⟩ hst hS (Nat.le_refl _) (.refl _ _) (fun _ h => h) fun pd1 p1 s1 m1 out1 m1' e1 S1 k1 kp k2 k3 k4 k5 k7 k8 => ?_
      rw [hd.xs] at k8
      refine w_drawN hm ms flp ks0 hd.ok.ch (D:=keepH st.H xs) hd.fl (keepH_drop xs) (fa:=none) (ksj:=[]) (cs:=(evL e []).toArray) (tg:=.raw) (len:=0) (c:=0) (t:=0) b1 b2 b3 (fun j hj => by cases hj) k8 fun g hg => ?_
      exact finG_ok ht hc hcl hn b5 hgv k4 kp rfl k3 k1 k2 (fun st' ho => hQ st' (ho.mono k3 k4 k7)) hg
    | some fo =>
      obtain ⟨j,ks,o⟩:=fo
      obtain ⟨o1,o2,o3,o4⟩:=hfo j ks o rfl
      simp only at h
      split at h <;> try (cases h; done)
      rename_i cs len z t hlit hdst
      cases hb2 : (bL d.k cs && (memN t ts && ks.all fun u => ckTmpS ops.toList (ms.getD j 0) (d.sp.map (·.i)) 0 d.sp u && tl1.all fun x => !(dstOf ops x == some u))) with
      | false => rw [hb2] at h; cases h
      | true =>
        rw [hb2,cond_true] at h
        simp only [Bool.and_eq_true] at hb2
        obtain ⟨d1,d2,d3⟩:=hb2
        have hgp : ∀ t v,lkp (pickT ks d.g) t=some v→lk (pickG (genv ops st.g Es) ks) t=v.ev e:=fun t v hv => by
          obtain ⟨h1,h2⟩:=pickT_ok hv
          rw [lk_pick_mem ks h1]; exact hd.ok.g t v h2
        have hSB:Sat (cD c (bareX st.H)) e (fltD d s0' [] ks) (opSt ops st Es ks (bareX st.H)):=satD f4 hgp (kr:=[]) (.inr rfl)
        obtain ⟨l1,l2,l3⟩:=litK_ok ht hSB hlit
        have hw:wants ops (opSt ops st Es ks (bareX st.H)) o true:=wants_no o3
        have hstep:StepO P r ops j (opSt ops st Es ks (bareX st.H)) (.slice (some ⟨st.H.next,0,none⟩) len z) ((bareX st.H).new (.row (evL e cs).toArray .raw)):=step_val o1 hw (dOk_spec o2) l1
        refine tl1G_ok (r:=r) (cs:=cs) (len:=len) (z:=z) (t:=t) ht hc (e0:=e) (k0:=d.k) c1 b5 hgv d1 hkr hkg (G:=W P r (.region id ops true) Q st) (outA:=out) tl1 flp _ _ m out m' h (fun _ h => h) (some j) (.inr ⟨j,rfl,rfl⟩) e ⟨pickG (genv ops st.g Es) ks0,st.n,st.ds,hp st.H Es Es.length⟩ hst hS (Nat.le_refl _) (.refl _ _) (fun _ h => h) fun pd1 p1 s1 m1 out1 m1' e1 S1 k1 kp k2 k3 k4 k5 k7 k8 => ?_
        rw [hd.xs] at k8
        refine w_drawN hm ms flp ks0 hd.ok.ch (D:=keepH st.H xs) hd.fl (keepH_drop xs) (fa:=some j) (ksj:=ks) (cs:=(evL e cs).toArray) (tg:=.raw) (len:=len) (c:=z) (t:=t) b1 b2 b3 (fun j' hj => ?_) k8 fun g hg => ?_
        · cases hj
          refine ⟨hstep,by simp [dstOf,o1,hdst],fun u hu => ?_,fun i hi => ?_,l2,hun t (memN_ok d2)⟩
          · have:=List.all_eq_true.1 d3 u hu
            rw [Bool.and_eq_true] at this
            refine ⟨?_,fun x hx => ?_⟩
            · rw [← ckTmpS_eq,← hi,← hd.ok.sp]; exact this.1
            · have:=List.all_eq_true.1 this.2 x hx
              simpa using this
          · rw [allB_eq] at l3
            have hi' : i < (evL e cs).length:=by simpa using hi
            have hc' : i < cs.length:=by simpa [evL] using hi'
            have : (evL e cs).toArray.getD i undef=(cs[i]).ev e:=by simp [Array.getD,hi',evL,hc']
            rw [this]
            exact nlf_ok (List.all_eq_true.1 l3 _ (List.getElem_mem hc'))
        · exact finG_ok ht hc hcl hn b5 hgv k4 kp d1 k3 k1 k2 (fun st' ho => hQ st' (ho.mono k3 k4 k7)) hg

def litT (ops:List Oper):List (Nat × List Nat × List Nat)→List Nat
  | [] => []
  | (i,_,_) :: r => match ops[i]? with
    | some o => bif isLit o.op then (match o.dst with
        | some t => t :: litT ops r
        | none => litT ops r) else litT ops r
    | none => litT ops r
def pureF (ops:List Oper):List (Nat × List Nat × List Nat)→List Nat
  | [] => []
  | (i,_,_) :: r => match ops[i]? with
    | some o => bif isLit o.op then pureF ops r else i :: pureF ops r
    | none => pureF ops r
def noFlt (fl:List Nat):List SP→Bool
  | [] => true
  | e :: r => !fl.contains e.i && noFlt fl r
theorem noFlt_ok {fl:List Nat} {D:SH} : ∀ {Es:List CE},noFlt fl (Es.map CE.sp) = true→FlOkN P r ops st fl D Es:=by
  intro Es
  induction Es with
  | nil => intro _; trivial
  | cons e Es ih =>
    intro h
    simp only [List.map_cons,noFlt,Bool.and_eq_true,Bool.not_eq_true'] at h
    exact ⟨fun hc => (by rw [show e.sp.i=e.i from rfl,hc] at h; exact absurd h.1 (by simp)),ih h.2⟩
def fltK (tt:Bt TI) (cl:CallT) (ops:Array Oper) (n:Nat) (pl:Plan) (flp ts tl1 tl2:List Nat) (d:DS) (m:Sm):Option (List Ss × Sm):=bif noFlt flp d.sp then fltG tt ops.toList n (endG tt cl ops n pl.ms flp tl1 tl2 pl.k0 ts) pl.fl d m else none
theorem fltK_ok (ht:TOk P tt) (hc:c.OK) (hm:P.follows .mixedOrders=true) {cl:CallT} (hcl:CallOK P c cl) {n:Nat} (hn:c.n=n) (hst:st.n=n) {pl:Plan} {flp ts tl1 tl2:List Nat} (hun : ∀ t ∈ ts,lk st.g t=undef) {id:Nat} : KapOK P r c ops st id (fltK tt cl ops n pl flp ts tl1 tl2):=by
  intro d m out m' h e Es hd Q hQ
  unfold fltK at h
  cases hb:noFlt flp d.sp with
  | false => rw [hb] at h; cases h
  | true =>
    rw [hb,cond_true] at h
    rw [hd.sp] at hb
    obtain ⟨a,s0,f1,_⟩:=hd.sn 0 (Nat.zero_le _)
    exact flt_ok ht hc hst (endG_ok ht hc hm hcl hn hst hun) (e0:=e) (k0:=d.k) pl.fl d m out m' h e Es s0 _ ⟨hd,noFlt_ok hb,⟨a,f1⟩,rfl⟩ (Nat.le_refl _) (.refl _ _) hQ
def dwK (tt:Bt TI) (tp:Bt (Bt Plan)):DwT:=fun cl f n id ops s m => match tp.get f with
  | some b => match b.get id with
    | some pl => match pl.fl with
      | [] => drwG tt cl ops.toArray n (tlG tt cl ops.toArray n pl.ms pl.tl) pl.sq ⟨s.k,s.g,s.f,s.q,[(0,s)],[]⟩ m
      | _ => drwG tt cl ops.toArray n (fltK tt cl ops.toArray n pl (pureF ops pl.fl) (litT ops pl.fl) (spanB (fun x => !(allB (fun p => bitN (pl.ms.getD x 0) p.1) pl.fl)) pl.tl).1 (spanB (fun x => !(allB (fun p => bitN (pl.ms.getD x 0) p.1) pl.fl)) pl.tl).2) pl.sq ⟨s.k,delT (litT ops pl.fl) s.g,s.f,s.q,[(0,s)],[]⟩ m
    | none => none
  | none => none
theorem lk_filter {p:Nat→Bool} {t:Nat} : ∀ {g:List (Nat × Value)},lk (g.filter fun x => p x.1) t=if p t=true then lk g t else undef:=by
  intro g
  induction g with
  | nil => simp [lk]
  | cons x r ih =>
    obtain ⟨u,w⟩:=x
    rw [List.filter_cons]
    by_cases hp:p u=true
    · rw [if_pos hp,lk_cons,lk_cons,ih]
      by_cases hu:u=t
      · subst hu; simp [hp]
      · simp only [hu,if_false]
    · rw [if_neg hp,ih,lk_cons]
      by_cases hu:u=t
      · subst hu; simp [hp]
      · simp only [hu,if_false]
end
theorem dwK_ok {P:Program} {tt:Bt TI} (ht:TOk P tt) (hm:P.follows .mixedOrders=true) (tp:Bt (Bt Plan)):DwOK P (dwK tt tp):=by
  intro cl hcl f n c r hc hn id ops s m l m' h e st Q hs hQ
  unfold dwK at h
  split at h <;> try (cases h; done)
  split at h <;> try (cases h; done)
  rename_i pl _
  split at h
  · rw [show ops.toList.toArray=ops by simp] at h
    refine drw_ok ht hc hcl hn (tlG_ok ht hc hm hcl hn) (by rw [hs.n,hn]) (e0:=e) (k0:=s.k) pl.sq _ m l m' h e [] ⟨.nil,rfl,hs.g,⟨0,s,[],rfl,Nat.le_refl _⟩,fun p hp => ?_⟩ (Nat.le_refl _) (.refl _ _) hQ
    have hp:p=0:=by simpa using hp
    subst hp
    exact ⟨0,s,rfl,Nat.le_refl _,rfl,hs.nog (g:=[]) (gv:=[]) fun t v hv => by cases hv⟩
  · rw [show ops.toList.toArray=ops by simp] at h
    generalize hts:litT ops.toList pl.fl=ts at h
    have hlk : ∀ t,lk (st.g.filter fun x => !memN x.1 ts) t=if (!memN t ts) = true then lk st.g t else undef:=fun t => lk_filter (p:=fun u => !memN u ts)
    refine w_weakG (g0:=st.g.filter fun x => !memN x.1 ts) ?_ fun t => ?_
    · refine drw_ok ht hc hcl hn (fltK_ok ht hc hm (hcl c hc) hn (by show st.n=n; rw [hs.n,hn]) fun t hm2 => ?_) (by show st.n=n; rw [hs.n,hn]) (e0:=e) (k0:=s.k) pl.sq _ m l m' h e [] ⟨.nil,rfl,fun t v hv => ?_,⟨0,s,[],rfl,Nat.le_refl _⟩,fun p hp => ?_⟩ (Nat.le_refl _) (.refl _ _) hQ
      · show lk (st.g.filter fun x => !memN x.1 ts) t=undef
        rw [hlk,memN_of hm2]; simp
      · obtain ⟨h1,h2⟩:=delT_ok hv
        show lk (st.g.filter fun x => !memN x.1 ts) t=_
        rw [hlk,h1]
        simpa using hs.g t v h2
      · have hp:p=0:=by simpa using hp
        subst hp
        exact ⟨0,s,rfl,Nat.le_refl _,rfl,hs.nog (g:=[]) (gv:=[]) fun t v hv => by cases hv⟩
    · rw [hlk]
      by_cases h2 : (!memN t ts) = true
      · exact .inr (if_pos h2)
      · exact .inl (if_neg h2)
end
end Go.Proofs.Orl

namespace Go.Proofs.Orl
open Go

def E0 (old:Array Obj):SH:=⟨old,old.size,.nil,fun _ => False⟩
def nils:Array Value:=#[.slice none 0 0,.slice none 0 0]
def A0 (old:Array Obj) (xr:Array Value):SH:=((E0 old).new (.row xr .raw)).new (.row nils .raw)

section
variable {old:Array Obj} {xr:Array Value} {H:SH}
theorem a0_B : (A0 old xr).B=old.size:=rfl
theorem a0_next : (A0 old xr).next=old.size + 2:=rfl
theorem a0_x : (A0 old xr).get old.size=some (.row xr .raw):=by simp [A0,E0]
theorem a0_h : (A0 old xr).get (old.size + 1) = some (.row nils .raw):=by simp [A0,E0]
theorem a0_live {n:Nat} : (A0 old xr).live n ↔ n=old.size∨n=old.size + 1:=by simp [A0,E0]
theorem a0_of {n:Nat} {x:SBlk} (h : (A0 old xr).get n=some x) : (n=old.size∧x=.row xr .raw)∨(n=old.size + 1∧x=.row nils .raw):=by
  by_cases h1:n=old.size + 1
  · subst h1; rw [a0_h] at h; cases h; exact .inr ⟨rfl,rfl⟩
  · by_cases h2:n=old.size
    · subst h2; rw [a0_x] at h; cases h; exact .inl ⟨rfl,rfl⟩
    · have e1 : (E0 old).next=old.size:=rfl
      have : (A0 old xr).get n=(E0 old).get n:=by
        show (((E0 old).new (.row xr .raw)).new (.row nils .raw)).get n=_
        rw [SH.get_new,if_neg (by simpa [E0] using h1),SH.get_new,if_neg (by simpa [E0] using h2)]
      rw [this] at h
      cases h
theorem a0_wt:WT (A0 old xr):=by
  refine ⟨by rw [a0_B,a0_next]; omega,fun n c e h => ?_,fun n c e h => ?_⟩
  · rcases a0_of h with ⟨_,h⟩ | ⟨_,h⟩
    · cases h
    · cases h
  · rcases a0_of h with ⟨_,h⟩ | ⟨_,h⟩
    · cases h
    · cases h
theorem RV.rigid {B:Nat} {N:Nat→Prop} {σ:Nat→Nat} {φ:Ph} {v u:Value} (h:VR B (fun _ => False) φ v u):RV B N σ v v:=by
  induction h with
  | bool b => exact .bool b
  | int k n => exact .int k n
  | string s => exact .string s
  | nilPtr => exact .nilPtr
  | oldPtr a h1 => exact .oldPtr a h1
  | ptr n k h1 h2 => exact h2.elim
  | nilSlice l c => exact .nilSlice l c
  | oldSlice a l c h1 => exact .oldSlice a l c h1
  | slice n k l c r h1 h2 h3 h4 h5 => exact h2.elim
  | empty a b c h1 => exact .oldSlice a 0 c (Nat.lt_of_not_le fun h => h1 h)
  | nilMap => exact .nilMap
  | map n h1 h2 => exact h2.elim
  | func f f' x x' c c' hf hx _ hc _ ih1 ih2 =>
    refine .func f f x x c c ?_ rfl ih1 rfl ih2
    cases hf with
    | func f => exact .func f
    | via t p f b => exact .via t p f b
    | yield l h1 h2 => exact h2.elim
  | nilFunc => exact .nilFunc
  | iface t v v' _ ih => exact .iface t v v ih
  | nilIface => exact .nilIface
  | agg x x' hx _ ih => exact .agg x x rfl ih
  | tuple x x' hx _ ih => exact .tuple x x rfl ih
theorem OldV.rv {B:Nat} {N:Nat→Prop} {σ:Nat→Nat} {v:Value} (h:OldV B v):RV B N σ v v:=RV.rigid (h (fun _ => False) (fun _ => ⟨0,0,0⟩))

def OldR (old:Array Obj) (xr:Array Value):Prop:=∀ i,i < xr.size→OldV old.size (xr.getD i undef)

theorem a0_rel (hx:OldR old xr) : ∃ φ w,Rel φ (A0 old xr) w:=by
  refine ⟨fun n => ⟨n,0,if n=old.size then xr.size else 2⟩,{ heap:=old++#[.cells xr 0,.cells nils 0],tape:=fun _ _ => 0,drawn:=0,os:=default,output:=#[] },fun b hb => ?_,by rw [a0_B,a0_next]; omega,?_,fun n hn => ?_,fun n hn => ?_,fun n x h => ?_,fun n m _ _ e => e⟩
  · have:b < old.size:=hb
    simp [A0,E0,Array.getElem?_append,this]
  · rw [a0_B]; simp
  · obtain ⟨x,hx'⟩:=Option.isSome_iff_exists.1 hn
    rw [a0_B]
    rcases a0_of hx' with ⟨h,_⟩ | ⟨h,_⟩
    · exact ⟨by omega,a0_live.2 (.inl h)⟩
    · exact ⟨by omega,a0_live.2 (.inr h)⟩
  · rw [a0_next]; rcases a0_live.1 hn with h | h <;> omega
  · rw [a0_B]
    rcases a0_of h with ⟨rfl,rfl⟩ | ⟨rfl,rfl⟩
    · refine ⟨Nat.le_refl _,.cells xr 0,by simp [Array.getElem?_append],.row _ _ _ _ (by simp) (by simp) fun i hi => ?_⟩
      have:=hx i hi
      simpa using this _ _
    · refine ⟨by simp,.cells nils 0,by simp [Array.getElem?_append],.row _ _ _ _ (by simp [nils]) (by simp [nils]) fun i hi => ?_⟩
      have hi' : i < 2:=hi
      have:i=0∨i=1:=by omega
      rcases this with rfl | rfl
      · simpa [nils] using VR.nilSlice 0 0
      · simpa [nils] using VR.nilSlice 0 0
theorem vr_ptr0 {φ:Ph} {B:Nat} {N:Nat→Prop} {n:Nat} (h1:B ≤ n) (h2:N n) : ∃ u,VR B N φ (.pointer (some ⟨n,0,none⟩)) u:=⟨_,.ptr n 0 h1 h2⟩
theorem ar_of {φ:Ph} {B:Nat} {N:Nat→Prop} : ∀ {l:List Value},(∀ v ∈ l,∃ u,VR B N φ v u)→∃ l',AR B N φ l.toArray l':=by
  intro l
  induction l with
  | nil => intro _; exact ⟨_,.nil⟩
  | cons v l ih =>
    intro h
    obtain ⟨u,hu⟩:=h v (by simp)
    obtain ⟨l',hl⟩:=ih fun w hw => h w (by simp [hw])
    have:=(AR.one hu).append hl
    exact ⟨_,by simpa using this⟩
theorem ra_of {σ:Nat→Nat} {B:Nat} {N:Nat→Prop} : ∀ {l l' : List Value},l.length=l'.length→(∀ i,i < l.length→RV B N σ (l.getD i undef) (l'.getD i undef))→RA B N σ l.toArray l'.toArray:=fun h1 h2 =>
  ⟨by simpa using h1,fun i hi => by
    have:=h2 i (by simpa using hi)
    simpa [Array.getD_eq_getD_getElem?,List.getD] using this⟩
theorem ra_row {σ:Nat→Nat} {N:Nat→Prop} {c c' : Array Value} {b:Bool} {B:Nat} (h : ∀ i,i < c.size→LV b (c.getD i undef)) (r:RA B N σ c c'):c' = c :=
  row_ext r.1.symm fun i hi => (h i (r.1 ▸ hi)).vr (r.2 i (r.1 ▸ hi))
theorem ra_old {σ:Nat→Nat} {N:Nat→Prop} {c' : Array Value} (h:OldR old xr) (r:RA old.size N σ xr c'):c' = xr :=
  row_ext r.1.symm fun i hi => ((OldV.rv (N:=N) (σ:=σ) (h i (r.1 ▸ hi))).uniq (N':=N) (fun n _ => rfl) (r.2 i (r.1 ▸ hi))).symm

def CallW (P:Program) (k:FuncId) (old:Array Obj) (xr:Array Value):Prop :=
  ∃ f cap A1 wv A2 K,T P k (List.toArray [Value.pointer (some ⟨old.size + 1,0,none⟩),.pointer (some ⟨old.size,0,none⟩)]) (A0 old xr) (.returned (.func (.func f) #[] (List.toArray cap))) A1∧
    KG (old.size + 1) (A0 old xr) A1∧HB A1 (old.size + 1) K∧K ≤ 4398046511104∧(∀ args w,(callFunc f args).run P w=.ok (.enter f args) w)∧
    T P f (List.toArray cap) (rowH A1) (.returned wv) A2∧KW (rowH A1) A2

def rho (old:Array Obj) (nx a:Nat) (n:Nat):Nat:=if n=old.size then nx else a
theorem a0_ren (hx:OldR old xr) (wt:WT H) (ho:H.old=old) {nx a:Nat} (h1:H.get nx=some (.row xr .raw)) (h2:H.get a=some (.row nils .raw)) (hne:nx ≠ a) (b1:old.size ≤ nx) (b2:old.size ≤ a) (l1:nx < H.next) (l2:a < H.next) (v1:H.live nx) (v2:H.live a) :
    Ren (rho old nx a) (A0 old xr) H:=by
  have hB:H.B=old.size:=by unfold SH.B; rw [ho]
  have r0:rho old nx a old.size=nx:=by simp [rho]
  have r1:rho old nx a (old.size + 1) = a:=by simp [rho]
  refine ⟨by rw [hB,a0_B]; exact Nat.le_refl _,wt.base,fun b _ => by rw [ho]; rfl,fun n m _ _ hn hm e => ?_,fun n _ hn => ?_,fun n c t h => ?_,fun n _ hn c e h => ?_⟩
  · rcases a0_live.1 hn with rfl | rfl <;> rcases a0_live.1 hm with rfl | rfl
    · rfl
    · rw [r0,r1] at e; exact absurd e hne
    · rw [r0,r1] at e; exact absurd e.symm hne
    · rfl
  · rw [hB]
    rcases a0_live.1 hn with rfl | rfl
    · rw [r0]; exact ⟨b1,v1,l1⟩
    · rw [r1]; exact ⟨b2,v2,l2⟩
  · rcases a0_of h with ⟨hn,h⟩ | ⟨hn,h⟩
    · cases h; rw [hn,r0]; exact ⟨xr,h1,rfl,fun i hi => (hx i hi).rv⟩
    · cases h; rw [hn,r1]
      refine ⟨nils,h2,rfl,fun i hi => ?_⟩
      have hi' : i < 2:=hi
      have:i=0∨i=1:=by omega
      rcases this with rfl | rfl
      · simpa [nils] using RV.nilSlice 0 0
      · simpa [nils] using RV.nilSlice 0 0
  · rcases a0_live.1 hn with rfl | rfl
    · rw [r0,h1] at h; cases h
    · rw [r1,h2] at h; cases h

theorem cont_of {A' H' : SH} {σ' : Nat→Nat} {s1 s2:Value} {c1 c2:Array Value} {n:Nat} (r:Ren σ' A' H') (h:HBc A' n s1 s2 c1 c2) (hz1:c1.size ≤ 4398046511104) (hz2:c2.size ≤ 4398046511104) (hdom : ∀ n,(A'.get n).isSome→A'.B ≤ n∧A'.live n) :
    ∃ t1 t2,H'.get (σ' n) = some (.row #[t1,t2] .raw)∧CV H' false t1 c1∧CV H' true t2 c2∧(∀ m,apX t1 m→∃ k,σ' k=m∧apX s1 k)∧(∀ m,apX t2 m→∃ k,σ' k=m∧apX s2 k):=by
  obtain ⟨c',g1,g2⟩:=r.row n _ _ h.blk
  have hsz:c'.size=2:=by rw [← g2.1]; rfl
  obtain ⟨t1,t2,rfl⟩ : ∃ t1 t2,c' = #[t1,t2]:=by
    obtain ⟨l⟩:=c'
    match l,hsz with
    | [t1,t2],_ => exact ⟨t1,t2,rfl⟩
  have q1:RV A'.B A'.live σ' s1 t1:=by simpa using g2.2 0 (by simp)
  have q2:RV A'.B A'.live σ' s2 t2:=by simpa using g2.2 1 (by simp)
  have key : ∀ {b:Bool} {s t:Value} {c:Array Value},c.size ≤ 4398046511104→GV A' b s c→RV A'.B A'.live σ' s t→CV H' b t c∧∀ m,apX t m→∃ k,σ' k=m∧apX s k:=fun {b s t c} hz hg hr => by
    rcases hg.2 with ⟨rfl,rfl⟩ | ⟨m,rfl,k1,k2,k3,k4⟩
    · cases hr; exact ⟨⟨⟨hz,hg.1⟩,.inl ⟨rfl,rfl⟩⟩,fun m hm => hm.elim⟩
    · cases hr with
      | oldSlice _ _ _ q => exact absurd q (Nat.not_lt.2 k1)
      | slice _ _ _ _ _ u1 u2 =>
        obtain ⟨d,w1,w2⟩:=r.row m _ _ k3
        have:=ra_row hg.1 w2
        subst this
        have hl:=r.live m k1 u2
        exact ⟨⟨⟨hz,hg.1⟩,.inr ⟨_,rfl,hl.1,hl.2.2,w1,k4⟩⟩,fun k hk => ⟨m,hk.symm,rfl⟩⟩
  obtain ⟨u1,w1⟩:=key hz1 h.g1 q1
  obtain ⟨u2,w2⟩:=key hz2 h.g2 q2
  exact ⟨t1,t2,g1,u1,u2,w1,w2⟩

theorem CV.lt {H:SH} {b:Bool} {v:Value} {c:Array Value} (h:CV H b v c) {m:Nat} (hm:apX v m):m < H.next:=by
  rcases h.2 with ⟨rfl,_⟩ | ⟨n,rfl,h1,h2,h3,h4⟩
  · exact hm.elim
  · have:m=n:=hm; subst this; exact h2

theorem le_raw {H H1:SH} {X:Nat→Prop} (k:KeepX X H H1) (h : ∀ m,X m→∃ c,H.get m=some (.row c .raw)):Le H H1 :=
  Le.gen k.old k.next fun m c e h1 h2 => k.get m h1 fun hx => by
    obtain ⟨d,hd⟩:=h m hx
    rw [hd] at h2; cases h2

theorem again_core {P:Program} {k:FuncId} (hx:OldR old xr) (hc:CallW P k old xr) (wt:WT H) (ho:H.old=old) {nx a b:Nat} (h1:H.get nx=some (.row xr .raw)) (h2:H.get a=some (.row nils .raw)) (h3:H.get b=some (.row nils .raw))
    (hne:nx ≠ a) (hne2:nx ≠ b) (hne3:a ≠ b) (b1:old.size ≤ nx) (b2:old.size ≤ a) (b3:old.size ≤ b) (l1:nx < H.next) (l2:a < H.next) (l3:b < H.next) (v1:H.live nx) (v2:H.live a) (v3:H.live b) :
    ∃ f cap H1 wv H2 v3 H3,T P k (List.toArray [Value.pointer (some ⟨a,0,none⟩),.pointer (some ⟨nx,0,none⟩)]) H (.returned (.func (.func f) #[] (List.toArray cap))) H1∧(∀ args w,(callFunc f args).run P w=.ok (.enter f args) w)∧
      T P f (List.toArray cap) H1 (.returned wv) H2∧T P k (List.toArray [Value.pointer (some ⟨b,0,none⟩),.pointer (some ⟨nx,0,none⟩)]) H2 (.returned v3) H3∧WT H3∧Le H H3∧KeepX (fun m => m=a∨m=b) H H3∧
      ∃ s1 s2 t1 t2 c1 c2,H3.get a=some (.row #[s1,s2] .raw)∧H3.get b=some (.row #[t1,t2] .raw)∧CV H3 false s1 c1∧CV H3 true s2 c2∧CV H3 false t1 c1∧CV H3 true t2 c2:=by
  obtain ⟨f,cap,A1,wv,A2,K,t1,kg,hb,hK,hcf,t2,kw⟩:=hc
  obtain ⟨s1,s2,c1,c2,hbc,hz1,hz2⟩:=hb
  have hA0dom : ∀ n,((A0 old xr).get n).isSome→(A0 old xr).B ≤ n∧(A0 old xr).live n:=fun n hn => by
    obtain ⟨x,hx'⟩:=Option.isSome_iff_exists.1 hn
    rw [a0_B]
    rcases a0_of hx' with ⟨h,_⟩ | ⟨h,_⟩
    · exact ⟨by omega,a0_live.2 (.inl h)⟩
    · exact ⟨by omega,a0_live.2 (.inr h)⟩
  have hA0rows : ∀ n x,(A0 old xr).get n=some x→∃ c t,x=.row c t:=fun n x h => by
    rcases a0_of h with ⟨_,rfl⟩ | ⟨_,rfl⟩ <;> exact ⟨_,_,rfl⟩
  have hB:H.B=old.size:=by unfold SH.B; rw [ho]
  have hinh:Inh (A0 old xr) (List.toArray [Value.pointer (some ⟨old.size + 1,0,none⟩),.pointer (some ⟨old.size,0,none⟩)]):=by
    obtain ⟨φ,w,hr⟩:=a0_rel hx
    obtain ⟨l',hl⟩:=ar_of (φ:=φ) (B:=(A0 old xr).B) (N:=(A0 old xr).live) (l:=[Value.pointer (some ⟨old.size + 1,0,none⟩),.pointer (some ⟨old.size,0,none⟩)]) (by
      intro v hv
      simp only [List.mem_cons,List.not_mem_nil,or_false] at hv
      rcases hv with rfl | rfl
      · exact vr_ptr0 (by rw [a0_B]; omega) (a0_live.2 (.inr rfl))
      · exact vr_ptr0 (by rw [a0_B]; omega) (a0_live.2 (.inl rfl)))
    exact ⟨φ,w,l',hr,hl⟩
  have hargs : ∀ nx a,RA (A0 old xr).B (A0 old xr).live (rho old nx a) (List.toArray [Value.pointer (some ⟨old.size + 1,0,none⟩),.pointer (some ⟨old.size,0,none⟩)]) (List.toArray [Value.pointer (some ⟨a,0,none⟩),.pointer (some ⟨nx,0,none⟩)]):=fun nx a => by
    refine ra_of rfl fun i hi => ?_
    have hi' : i < 2:=hi
    have:i=0∨i=1:=by omega
    rcases this with rfl | rfl
    · have:=RV.ptr (B:=(A0 old xr).B) (N:=(A0 old xr).live) (σ:=rho old nx a) (old.size + 1) 0 (by rw [a0_B]; omega) (a0_live.2 (.inr rfl))
      simpa [rho] using this
    · have:=RV.ptr (B:=(A0 old xr).B) (N:=(A0 old xr).live) (σ:=rho old nx a) old.size 0 (by rw [a0_B]; omega) (a0_live.2 (.inl rfl))
      simpa [rho] using this
  have r0 : ∀ nx a,rho old nx a old.size=nx:=fun nx a => by simp [rho]
  have r1 : ∀ nx a,rho old nx a (old.size + 1) = a:=fun nx a => by simp [rho]
  have hAx:A1.get old.size=some (.row xr .raw):=kg.get a0_x (by rw [a0_next]; omega) (by omega)
  have hlow : ∀ n x,A1.get n=some (.row x .grow)→old.size + 2 ≤ n∨n < old.size:=fun n x hn => by
    by_cases e1:n=old.size
    · subst e1; rw [hAx] at hn; cases hn
    · by_cases e2:n=old.size + 1
      · subst e2; rw [hbc.blk] at hn; cases hn
      · omega
  -- the first call
  have ren1:=a0_ren hx wt ho h1 h2 hne b1 b2 l1 l2 v1 v2
  obtain ⟨v',H1,T1,rv1,o1,φ1,w1,u1,hr1,hu1⟩:=t1.ren ren1 hA0rows (KeepX.new kg) hinh (hargs nx a)
  have hdom1:=hr1.dom
  have hA1B:A1.B=old.size:=by rw [KeepX.B kg]; rfl
  have wt1:=o1.wt ren1 wt
  have o1next:=o1.next
  have o1nx:=o1.nx
  rw [a0_next] at o1next o1nx
  have s0:sgm (rho old nx a) (A0 old xr).next H.next old.size=nx:=by rw [sgm_lt (by rw [a0_next]; omega),r0]
  have s1' : sgm (rho old nx a) (A0 old xr).next H.next (old.size + 1) = a:=by rw [sgm_lt (by rw [a0_next]; omega),r1]
  have hnx1:H1.get nx=some (.row xr .raw):=by
    obtain ⟨c',g1,g2⟩:=o1.ren.row _ _ _ hAx
    rw [s0] at g1
    rw [hA1B] at g2
    rw [ra_old hx g2] at g1; exact g1
  have hbimg : ∀ n,(A0 old xr).B ≤ n→(A0 old xr).live n→rho old nx a n ≠ b:=fun n _ hn => by
    rcases a0_live.1 hn with rfl | rfl
    · rw [r0]; exact hne2
    · rw [r1]; exact hne3
  have hb1:H1.get b=some (.row nils .raw):=(o1.get b l3 hbimg).trans h3
  -- its wipe
  have hfv : ∃ cap',v' = .func (.func f) #[] (List.toArray cap')∧RA A1.B A1.live (sgm (rho old nx a) (A0 old xr).next H.next) (List.toArray cap) (List.toArray cap'):=by
    cases rv1 with
    | func _ f' _ x' _ c' hf hx1 hx2 hc1 hc2 =>
      cases hf
      have:x' = #[]:=by apply Array.eq_empty_of_size_eq_zero; simpa using hx1.symm
      subst this
      exact ⟨c'.toList,by simp,by simpa using hc1,by simpa using hc2⟩
  obtain ⟨cap',rfl,hcap⟩:=hfv
  have hlt1 : ∀ n,(A1.get n).isSome→n < A1.next:=fun n hn => hr1.lt n (hr1.dom n hn).2
  have hsub:=rowH_sub A1
  have hinh2:Inh (rowH A1) (List.toArray cap):=by
    cases hu1 with
    | func _ f' _ x' _ c' hf hx1 hx2 hc1 hc2 => exact ⟨φ1,w1,c',Inh.rows hr1,by rw [hsub.B,hsub.live]; exact ⟨hc1,hc2⟩⟩
  have ren2:=o1.ren.rows
  obtain ⟨wv',H2,T2,_,o2,φ2,w2,_,hr2,_⟩:=t2.ren ren2 (fun n x h => by
    have hn:n < A1.next:=hlt1 n (by rw [hsub.get n x h]; rfl)
    exact (rowH_of hn h).2) (KeepX.new kw) hinh2 (by rw [hsub.B,hsub.live]; exact hcap)
  have wt2:=o2.wt ren2 wt1
  have hA1n : (rowH A1).next=A1.next:=hsub.next
  have hA2B:A2.B=old.size:=by rw [KeepX.B kw,hsub.B]; exact hA1B
  have e2 : ∀ n,n < A1.next→sgm (sgm (rho old nx a) (A0 old xr).next H.next) (rowH A1).next H1.next n=sgm (rho old nx a) (A0 old xr).next H.next n:=fun n hn => sgm_lt (by rw [hA1n]; exact hn)
  have hA1x:old.size + 2 ≤ A1.next:=o1nx
  have hbc2:HBc A2 (old.size + 1) s1 s2 c1 c2:=by
    have hrow:HBc (rowH A1) (old.size + 1) s1 s2 c1 c2:=⟨rowH_row hbc.blk,hbc.g1.move hsub.old (Nat.le_of_eq hsub.next.symm) fun m hm _ => by rw [rowH_row (hbc.g1.grow hm),hbc.g1.grow hm],
      hbc.g2.move hsub.old (Nat.le_of_eq hsub.next.symm) fun m hm _ => by rw [rowH_row (hbc.g2.grow hm),hbc.g2.grow hm],hbc.ne,by rw [hsub.B]; exact hbc.B,by rw [hsub.next]; exact hbc.lt⟩
    exact ⟨kw.raw hrow.blk hrow.lt,hrow.g1.move (KeepX.old kw) (KeepX.next kw) fun m hm hl => by rw [kw.get (hrow.g1.grow hm) hl (by simp),hrow.g1.grow hm],
      hrow.g2.move (KeepX.old kw) (KeepX.next kw) fun m hm hl => by rw [kw.get (hrow.g2.grow hm) hl (by simp),hrow.g2.grow hm],hrow.ne,by rw [KeepX.B kw]; exact hrow.B,Nat.lt_of_lt_of_le hrow.lt (KeepX.next kw)⟩
  have hA2x:A2.get old.size=some (.row xr .raw):=kw.raw (rowH_row hAx) (by rw [hA1n]; omega)
  have hnx2:H2.get nx=some (.row xr .raw):=by
    obtain ⟨c',g1,g2⟩:=o2.ren.row _ _ _ hA2x
    rw [e2 _ (by omega),s0] at g1
    rw [hA2B] at g2
    rw [ra_old hx g2] at g1; exact g1
  have himg1 : ∀ n,(rowH A1).B ≤ n→(rowH A1).live n→∀ m,m < H.next→m ≠ nx→m ≠ a→sgm (rho old nx a) (A0 old xr).next H.next n ≠ m:=fun n hn1 hn2 m hm q1 q2 => by
    rw [hsub.B,hA1B] at hn1
    by_cases e:n < old.size + 2
    · have:n=old.size∨n=old.size + 1:=by omega
      rcases this with rfl | rfl
      · rw [s0]; exact fun e => q1 e.symm
      · rw [s1']; exact fun e => q2 e.symm
    · rw [sgm_ge (by rw [a0_next]; omega)]; omega
  have o2next:=o2.next
  have o2nx:=o2.nx
  rw [hA1n] at o2next o2nx
  have hb2:H2.get b=some (.row nils .raw):=(o2.get b (by omega) fun n q1 q2 => himg1 n q1 q2 b l3 (Ne.symm hne2) (Ne.symm hne3)).trans hb1
  obtain ⟨x1,x2,ga,cv1,cv2,ap1,ap2⟩:=cont_of o2.ren hbc2 (Nat.le_trans hz1 hK) (Nat.le_trans hz2 hK) hr2.dom
  rw [e2 _ (by omega),s1'] at ga
  -- the second call
  have ho2:H2.old=old:=o2.old.trans (o1.old.trans ho)
  have ren3:=a0_ren hx wt2 ho2 hnx2 hb2 hne2 b1 b3 (by omega) (by omega) (o2.live _ (o1.live _ v1)) (o2.live _ (o1.live _ v3))
  obtain ⟨v3',H3,T3,_,o3,φ3,w3,_,hr3,_⟩:=t1.ren ren3 hA0rows (KeepX.new kg) hinh (hargs nx b)
  have wt3:=o3.wt ren3 wt2
  have o3next:=o3.next
  obtain ⟨y1,y2,gb,dv1,dv2,-,-⟩:=cont_of o3.ren hbc (Nat.le_trans hz1 hK) (Nat.le_trans hz2 hK) hr3.dom
  have s3b:sgm (rho old nx b) (A0 old xr).next H2.next (old.size + 1) = b:=by rw [sgm_lt (by rw [a0_next]; omega),r1]
  have s3x:sgm (rho old nx b) (A0 old xr).next H2.next old.size=nx:=by rw [sgm_lt (by rw [a0_next]; omega),r0]
  rw [s3b] at gb
  have hnx3:H3.get nx=some (.row xr .raw):=by
    obtain ⟨c',g1,g2⟩:=o3.ren.row _ _ _ hAx
    rw [s3x] at g1
    rw [hA1B] at g2
    rw [ra_old hx g2] at g1; exact g1
  have himg3 : ∀ m,m ≠ nx→m ≠ b→∀ n,(A0 old xr).B ≤ n→(A0 old xr).live n→rho old nx b n ≠ m:=fun m q1 q2 n _ hn => by
    rcases a0_live.1 hn with rfl | rfl
    · rw [r0]; exact fun e => q1 e.symm
    · rw [r1]; exact fun e => q2 e.symm
  have hap : ∀ {b' : Bool} {s t:Value} {c:Array Value},GV A1 b' s c→(∀ m,apX t m→∃ k,sgm (sgm (rho old nx a) (A0 old xr).next H.next) (rowH A1).next H1.next k=m∧apX s k)→∀ m,apX t m→H.next ≤ m:=fun {b' s t c} hg hh m hm => by
    obtain ⟨k,hk,hk2⟩:=hh m hm
    have hgr:=hg.grow hk2
    have hlo:=hlow k _ hgr
    have hd:=hr1.dom k (by simp [hgr])
    rw [hA1B] at hd
    rw [e2 k (hr1.lt k hd.2),sgm_ge (by rw [a0_next]; omega)] at hk
    omega
  have hkx:KeepX (fun m => m=a∨m=b) H H3:=by
    refine ⟨by rw [o3.old,ho2,ho],by omega,fun m hm hX => ?_,fun m hm => o3.live _ (o2.live _ (o1.live _ hm)),fun m hm => ?_⟩
    · by_cases e:m=nx
      · subst e; rw [hnx3,h1]
      · have qa:m ≠ a:=fun e => hX (.inl e)
        have qb:m ≠ b:=fun e => hX (.inr e)
        rw [o3.get m (by omega) (himg3 m e qb),o2.get m (by omega) fun n q1 q2 => himg1 n q1 q2 m hm e qa,o1.get m hm fun n _ hn => by
          rcases a0_live.1 hn with rfl | rfl
          · rw [r0]; exact fun e' => e e'.symm
          · rw [r1]; exact fun e' => qa e'.symm]
    · rcases o3.new m hm with q | q
      · rcases o2.new m q with q | q
        · rcases o1.new m q with q | q
          · exact .inl q
          · exact .inr q
        · exact .inr (by omega)
      · exact .inr (by omega)
  refine ⟨f,cap',H1,wv',H2,v3',H3,T1,hcf,T2,T3,wt3,le_raw hkx fun m hm => hm.elim (fun e => ⟨_,e ▸ h2⟩) fun e => ⟨_,e ▸ h3⟩,hkx,x1,x2,y1,y2,c1,c2,?_,gb,cv1.move o3.old (by omega) fun m hm hl => ?_,cv2.move o3.old (by omega) fun m hm hl => ?_,dv1,dv2⟩
  · rw [o3.get a (by omega) (himg3 a (Ne.symm hne) hne3)]; exact ga
  · have:=hap hbc.g1 ap1 m hm
    exact o3.get m hl (himg3 m (by omega) (by omega))
  · have:=hap hbc.g2 ap2 m hm
    exact o3.get m hl (himg3 m (by omega) (by omega))
end
end Go.Proofs.Orl

namespace Go.Proofs.Orl
open Go

section
variable {old:Array Obj} {xr:Array Value} {H:SH}
def AllW (P:Program) (k:FuncId) (old:Array Obj) (xr:Array Value):Prop :=
  ∃ v A1 K,T P k (List.toArray [Value.agg xr,.pointer (some ⟨old.size + 1,0,none⟩)]) (A0 old xr) (.returned v) A1∧KG (old.size + 1) (A0 old xr) A1∧HB A1 (old.size + 1) K∧K ≤ 4398046511104

def AllC (P:Program) (k:FuncId) (old:Array Obj) (xr:Array Value) (c1 c2:Array Value):Prop :=
  ∀ (H:SH) (nx a:Nat),WT H→H.old=old→H.get nx=some (.row xr .raw)→H.get a=some (.row nils .raw)→nx ≠ a→old.size ≤ nx→old.size ≤ a→nx < H.next→a < H.next→H.live nx→H.live a→
    WC P k [Value.agg xr,.pointer (some ⟨a,0,none⟩)] H fun _ H' => WT H'∧Le H H'∧KeepX (fun m => m=a) H H'∧∃ s1 s2,H'.get a=some (.row #[s1,s2] .raw)∧CV H' false s1 c1∧CV H' true s2 c2

theorem all_core {P:Program} {k:FuncId} (hx:OldR old xr) (h:AllW P k old xr) : ∃ c1 c2,AllC P k old xr c1 c2:=by
  obtain ⟨v,A1,K,t1,kg,⟨s1,s2,c1,c2,hbc,hz1,hz2⟩,hK⟩:=h
  refine ⟨c1,c2,fun H nx a wt ho h1 h2 hne b1 b2 l1 l2 v1 v2 => ?_⟩
  have hA0rows : ∀ n x,(A0 old xr).get n=some x→∃ c t,x=.row c t:=fun n x h => by
    rcases a0_of h with ⟨_,rfl⟩ | ⟨_,rfl⟩ <;> exact ⟨_,_,rfl⟩
  have hinh:Inh (A0 old xr) (List.toArray [Value.agg xr,.pointer (some ⟨old.size + 1,0,none⟩)]):=by
    obtain ⟨φ,w,hr⟩:=a0_rel hx
    obtain ⟨l',hl⟩:=ar_of (φ:=φ) (B:=(A0 old xr).B) (N:=(A0 old xr).live) (l:=[Value.agg xr,.pointer (some ⟨old.size + 1,0,none⟩)]) (by
      intro v hv
      simp only [List.mem_cons,List.not_mem_nil,or_false] at hv
      rcases hv with rfl | rfl
      · exact ⟨.agg xr,.agg _ _ rfl fun i hi => hx i hi _ _⟩
      · exact vr_ptr0 (by rw [a0_B]; omega) (a0_live.2 (.inr rfl)))
    exact ⟨φ,w,l',hr,hl⟩
  have r0:rho old nx a old.size=nx:=by simp [rho]
  have r1:rho old nx a (old.size + 1) = a:=by simp [rho]
  have hargs:RA (A0 old xr).B (A0 old xr).live (rho old nx a) (List.toArray [Value.agg xr,.pointer (some ⟨old.size + 1,0,none⟩)]) (List.toArray [Value.agg xr,.pointer (some ⟨a,0,none⟩)]):=by
    refine ra_of rfl fun i hi => ?_
    have hi' : i < 2:=hi
    have:i=0∨i=1:=by omega
    rcases this with rfl | rfl
    · have:=RV.agg (B:=(A0 old xr).B) (N:=(A0 old xr).live) (σ:=rho old nx a) xr xr rfl fun i hi => (hx i hi).rv
      simpa using this
    · have:=RV.ptr (B:=(A0 old xr).B) (N:=(A0 old xr).live) (σ:=rho old nx a) (old.size + 1) 0 (by rw [a0_B]; omega) (a0_live.2 (.inr rfl))
      simpa [rho] using this
  have ren1:=a0_ren hx wt ho h1 h2 hne b1 b2 l1 l2 v1 v2
  obtain ⟨v',H1,T1,rv1,o1,φ1,w1,u1,hr1,hu1⟩:=t1.ren ren1 hA0rows (KeepX.new kg) hinh hargs
  have hAx:A1.get old.size=some (.row xr .raw):=kg.get a0_x (by rw [a0_next]; omega) (by omega)
  have hA1B:A1.B=old.size:=by rw [KeepX.B kg]; rfl
  have s0:sgm (rho old nx a) (A0 old xr).next H.next old.size=nx:=by rw [sgm_lt (by rw [a0_next]; omega),r0]
  have s1' : sgm (rho old nx a) (A0 old xr).next H.next (old.size + 1) = a:=by rw [sgm_lt (by rw [a0_next]; omega),r1]
  have hnx1:H1.get nx=some (.row xr .raw):=by
    obtain ⟨c',g1,g2⟩:=o1.ren.row _ _ _ hAx
    rw [s0] at g1
    rw [hA1B] at g2
    rw [ra_old hx g2] at g1; exact g1
  obtain ⟨x1,x2,ga,cv1,cv2,-,-⟩:=cont_of o1.ren hbc (Nat.le_trans hz1 hK) (Nat.le_trans hz2 hK) hr1.dom
  rw [s1'] at ga
  have hkx:KeepX (fun m => m=a) H H1:=by
    refine ⟨o1.old,by have:=o1.next; omega,fun m hm hX => ?_,o1.live,o1.new⟩
    by_cases e:m=nx
    · subst e; rw [hnx1,h1]
    · exact o1.get m hm fun n _ hn => by
        rcases a0_live.1 hn with rfl | rfl
        · rw [r0]; exact fun e' => e e'.symm
        · rw [r1]; exact fun e' => hX e'.symm
  exact ⟨v',H1,T1,o1.wt ren1 wt,le_raw hkx fun m hm => ⟨_,(show m=a from hm) ▸ h2⟩,hkx,x1,x2,ga,cv1,cv2⟩
end

theorem oldR_of {old:Array Obj} {l:List Value} (h : ∀ v ∈ l,OldV old.size v):OldR old l.toArray:=fun i hi => by
  have hi' : i < l.length:=by simpa using hi
  have:l.toArray.getD i undef=l[i]:=by simp [Array.getD,hi']
  rw [this]
  exact h _ (List.getElem_mem hi')
def OldL (B:Nat):List Value→Prop
  | [] => True
  | v :: l => OldV B v∧OldL B l
theorem oldL_mem {B:Nat} : ∀ {l:List Value},OldL B l→∀ v ∈ l,OldV B v:=by
  intro l
  induction l with
  | nil => intro _ v hv; cases hv
  | cons w l ih =>
    intro h v hv
    rcases List.mem_cons.1 hv with rfl | hv
    · exact h.1
    · exact ih h.2 v hv
theorem oldR_ofL {old:Array Obj} {l:List Value} (h:OldL old.size l):OldR old l.toArray:=oldR_of (oldL_mem h)
theorem old_int {B:Nat} (k:IntKind) (n:Int):OldV B (.int k n):=fun _ _ => .int k n
theorem CV.boxX {H H' : SH} {b:Bool} {v:Value} {c:Array Value} {a:Nat} (h:CV H b v c) (k:KeepX (fun m => m=a) H H') (ha:H.get a=some (.row nils .raw)):CV H' b v c :=
  h.move k.old k.next fun m hm hl => k.get m hl fun hx => by
    have hx' : m=a:=hx
    subst hx'
    rcases h.2 with ⟨rfl,_⟩ | ⟨n,rfl,_,_,h3,h4⟩
    · exact hm.elim
    · have hmn:m=n:=hm
      subst hmn
      rw [ha] at h3; cases h3
      have:=h.1.2 0 h4
      cases b with
      | false => obtain ⟨x,hx⟩:=this; simp [nils] at hx
      | true => obtain ⟨x,hx⟩:=this; simp [nils] at hx
theorem cv_loadE {P:Program} {H:SH} {b:Bool} {v:Value} {c:Array Value} (h:CV H b v c) {o:Oper} {s:St} {t:TypeId} {x:Operand} {i:Nat} {u:Value} (he:c.getD i undef=u) (hi:i < c.size) (ho:o.op=.load t x) (hx:okO x=true) (hxv:s.ev x=.pointer (some ⟨snm v,i,none⟩)) (hH:s.H=H) (ha:aggT P t=some false) (hs:szT P t=some 1) :
    OpV P o s u s.H:=he ▸ cv_load h hi ho hx hxv hH ha hs
theorem opv_neStrS {P:Program} {o:Oper} {s:St} {t yt:TypeId} {x y:Operand} {a:ByteArray} (ho:o.op=.binOp .neq t x y yt) (hx:okO x=true) (hy:okO y=true) (hxv:s.ev x=.string a) (hyv:s.ev y=.string a):OpV P o s (.bool false) s.H:=by
  have:=opv_neStr (P:=P) ho hx hy hxv hyv
  simpa using this
theorem callW {P:Program} {k:FuncId} {old:Array Obj} {xr:Array Value} {K:Nat} (hK:K ≤ 4398046511104)
    (h:WC P k [Value.pointer (some ⟨old.size + 1,0,none⟩),.pointer (some ⟨old.size,0,none⟩)] (A0 old xr) fun v A1 => KG (old.size + 1) (A0 old xr) A1∧HB A1 (old.size + 1) K∧
      ∃ f cap,v=.func (.func f) #[] (List.toArray cap)∧(∀ args w,(callFunc f args).run P w=.ok (.enter f args) w)∧WC P f cap (rowH A1) fun _ A2 => KW (rowH A1) A2):CallW P k old xr:=by
  obtain ⟨v,A1,t1,kg,hb,f,cap,rfl,hcf,wv,A2,t2,kw⟩:=h
  exact ⟨f,cap,A1,wv,A2,K,t1,kg,hb,hK,hcf,t2,kw⟩
theorem allW {P:Program} {k:FuncId} {old:Array Obj} {xr:Array Value} {K:Nat} (hK:K ≤ 4398046511104)
    (h:WC P k [Value.agg xr,.pointer (some ⟨old.size + 1,0,none⟩)] (A0 old xr) fun _ A1 => KG (old.size + 1) (A0 old xr) A1∧HB A1 (old.size + 1) K):AllW P k old xr:=by
  obtain ⟨v,A1,t1,kg,hb⟩:=h
  exact ⟨v,A1,K,t1,kg,hb,hK⟩
end Go.Proofs.Orl

namespace Go.Proofs.Orl
open Go Go.ChangeShapes

theorem post_true {H:Type} {enc:TypeId × Value→H} {P:Program} {f:Func} {s:ChangeSpec} {apart fresh handsOn again:Bool} {W W' : World} {t tb:TypeId} {v0:Value} {d0:DataW H} {p0:List MemPlace} {ds gs:List (DataW H)} {before:List MemPlace}
    (hps:f.params=#[t]) (hrs:f.resultTypes=#[tb]) (hb:P.underlying tb=some .bool) (hvs:s.vars=[]) (hfn:s.fn H [d0] = { results:=[.lit (.bool true)],args:=[d0] })
    (hW:DataW.Whole enc P f.params.toList s.vars apart W [v0] ds gs before) (h0:DataW.Trod enc P W 0 (fun _ => true) true t v0 d0 p0) (hd:ds=[d0]) (hg:gs=[]) (hbp:before=p0)
    (hl:laidOutB P=true) (hr:P.readableRec t=true) (hrow:t < P.types.size) (hos:W'.os=W.os) (hout:W'.output=W.output) (hkeep : ∀ b,b < W.heap.size→W'.heap[b]? = W.heap[b]?) :
    s.post enc P f apart fresh handsOn again W #[v0] (.bool true) W':=by
  subst hd hg hbp
  have hlt : ∀ p ∈ before,p.block < W.heap.size:=fun p hp => hW.lt p hp
  have hsame : ∀ p ∈ before,W.sameAt W' p:=fun p hp => by
    cases p with
    | cell b o => exact World.cell?_of_block (w:=W) (hkeep b (hlt _ hp))
    | map b => exact hkeep b (hlt _ hp)
  have hargs : ∀ sp:Nat→Bool,(∀ p ∈ before,sp p.block=true)→DataW.TrodAll enc P W' 0 sp true f.params.toList (#[v0] : Array Value).toList [d0] before:=fun sp hsp => by
    rw [hps]
    exact ⟨before,[],WideElems.Trod_stays hl hr hrow h0 hsame hsp,rfl,by simp⟩
  have hres : ∀ (b:Nat) (sp:Nat→Bool) (hd:Bool),DataW.TrodAll enc P W' b sp hd f.resultTypes.toList ((Value.bool true).resultList f.resultTypes.size) [DataW.lit (.bool true)] []:=fun b sp hd => by
    rw [hrs]
    exact ⟨[],[],⟨1,by simp [DataW.trod,hb,Value.cells]⟩,rfl,rfl⟩
  have hk:W.keptBut W' (· ∈ before):=by
    refine ⟨hos,hout,fun i hi => ?_⟩
    rw [hkeep i hi]
    split
    · rename_i e1 e2
      rw [e1] at e2; cases e2
      exact ⟨rfl,rfl,rfl,fun _ _ => rfl⟩
    · rename_i e1 e2
      rw [e1] at e2; cases e2
      exact .inr ⟨rfl,rfl⟩
    · rfl
  have hold : ∀ p ∈ before,(fun b => decide (b < W.heap.size)) p.block=true:=fun p hp => by simpa using hlt p hp
  have hfn' : s.fn H ([d0]++[]) = { results:=[.lit (.bool true)],args:=[d0] }:=hfn
  have hvar : ∀ sp:Nat→Bool,DataW.TrodVars enc P W' sp s.vars ([] : List (DataW H)) []:=fun sp => by rw [hvs]; rfl
  refine ⟨[d0],[],before,[],before,[],hW,?_,?_,?_,World.keptBut_mono (fun p hp => ⟨hp,.inr (.inl hp)⟩) hk,fun _ => ?_⟩
  · rw [hfn']; exact hres _ _ _
  · rw [hfn']; exact hargs _ hold
  · rw [hfn']; exact hvar _
  · obtain ⟨_,_,_,_,_,hz,hn⟩:=hW
    refine ⟨fun j t' r hj hv => ?_,_,_,([]++before)++[],⟨[]++before,[],trodAll_append (hargs _ (fun _ _ => rfl)) (hres _ _ _),hvar _,rfl,?_,?_⟩,?_⟩
    · rw [hrs] at hj hv
      match j,hj,hv with
      | 0,hj,hv =>
        simp [Value.resultList] at hj hv
        subst hj; subst hv
        simp [Value.okWide,hb,Cell.okWide,Cell.ok]
    · intro b off hp
      have hp' : MemPlace.cell b off ∈ before:=by simpa using hp
      have e:W'.frozen? ⟨b,off,none⟩ = W.frozen? ⟨b,off,none⟩:=by
        have:=hkeep b (hlt _ hp')
        simp only [World.frozen?,this]
      rw [e]; exact hz b off hp'
    · intro ha
      have:=hn ha
      simpa using this
    · intro p hp _
      simpa using hp

theorem calls_true {P:Program} {f:FuncId} {W:World} {args:List Value} {H' : SH} (h:T P f args.toArray (E0 W.heap) (.returned (.bool true)) H') (ha : ∀ v ∈ args,OldV W.heap.size v) :
    Calls P f args.toArray W fun e W' => e=.returned (.bool true)∧W'.os=W.os∧W'.output=W.output∧∀ b,b < W.heap.size→W'.heap[b]? = W.heap[b]?:=by
  have hg : ∀ n,(E0 W.heap).get n=none:=fun n => rfl
  have hr:Rel (fun n => ⟨n,0,0⟩) (E0 W.heap) W:=⟨fun b _ => rfl,Nat.le_refl _,Nat.le_refl _,fun n hn => (by rw [hg] at hn; cases hn),fun n hn => hn.elim,fun n x hx => (by rw [hg] at hx; cases hx),fun n m hn => (by rw [hg] at hn; cases hn)⟩
  have har:AR (E0 W.heap).B (E0 W.heap).live (fun n => ⟨n,0,0⟩) args.toArray args.toArray:=⟨rfl,fun i hi => by
    have hi' : i < args.length:=by simpa using hi
    have:args.toArray.getD i undef=args[i]:=by simp [Array.getD,hi']
    rw [this]
    exact ha _ (List.getElem_mem hi') _ _⟩
  refine callsIn_wide.1 ((h _ W args.toArray hr har).mono fun e W' ⟨φ',he,hr',hx⟩ => ?_)
  refine ⟨?_,hx.os,hx.out,fun b hb => hx.keep b hb fun n hn => by rw [hg] at hn; cases hn⟩
  cases he with | returned _ u g => cases g; rfl

structure Bk (H:Type) (bk:DataW H→Nat) (bkAll:List (DataW H)→Nat):Prop where
  len : ∀ l,l.length ≤ bkAll l
  mem : ∀ d l,d ∈ l→bk d ≤ bkAll l
  slice : ∀ a b,bkAll a + bkAll b ≤ bk (.slice a b)
  agg : ∀ a,bkAll a ≤ bk (.agg a)

def flatTy:Ty→Bool
  | .int _ => true
  | .bool => true
  | .str => true
  | _ => false
mutual
def tyF (P:Program):Nat→TypeId→Option (List Ty)
  | 0,_ => none
  | n + 1,t => match P.underlying t with
    | some (.int k) => some [.int k]
    | some .bool => some [.bool]
    | some .string => some [.str]
    | some (.slice e) => match tyF P n e with
      | some l => bif l.all flatTy && (Nat.ble 1 l.length && Nat.beq (P.cellsOf e) l.length) then some [.sl false l] else none
      | none => none
    | some (.struct fs) => match tyFs P n 0 fs.toList with
      | some l => bif Nat.beq (P.cellsOf t) l.length then some l else none
      | none => none
    | _ => none
def tyFs (P:Program):Nat→Nat→List Field→Option (List Ty)
  | 0,_,_ => none
  | _ + 1,_,[] => some []
  | n + 1,o,f :: fs => match tyF P n f.type with
    | some l => bif Nat.beq f.offset o && Nat.beq (P.cellsOf f.type) l.length then (match tyFs P n (o + l.length) fs with
      | some r => some (l++r)
      | none => none) else none
    | none => none
end

section
variable {H:Type} {enc:TypeId × Value→H} {P:Program} {W:World} {bk:DataW H→Nat} {bkAll:List (DataW H)→Nat}

def PT (W:World) (t:Ty) (v:Value):Prop:=OT W.heap.size W.heap t v∨∃ e a,t=.sl false e∧v=.slice (some a) 0 0∧e ≠ []

theorem cell_at {a:Addr} {i:Nat} {v:Value} (h:W.cell? (a.add i) = some v) : ∃ cs t fr,W.heap[a.block]? = some (.cells cs t fr)∧cs[a.off + i]? = some v∧(i=0→a.spot=none):=by
  unfold World.cell? Addr.add at h
  by_cases hi:i=0
  · subst hi
    simp only [if_true] at h
    split at h <;> try (cases h; done)
    rename_i c t fr hc
    split at h <;> try (cases h; done)
    rename_i hs
    exact ⟨c,t,fr,hc,h,fun _ => by simpa using hs⟩
  · simp only [hi,if_false] at h
    split at h <;> try (cases h; done)
    rename_i c t fr hc
    exact ⟨c,t,fr,hc,by simpa using h,fun e => absurd e hi⟩

theorem pt_flat {t:Ty} {v:Value} (h:PT W t v) (hf:flatTy t=true):OT W.heap.size W.heap t v:=by
  rcases h with h | ⟨e,a,rfl,_,_⟩
  · exact h
  · cases hf

theorem getD_dt (cs:List Value) {o w i:Nat} (hi:i < w) : ((cs.drop o).take w).getD i undef=cs.getD (o + i) undef:=by
  simp [List.getD,List.getElem?_take,List.getElem?_drop,hi]

theorem tyF_spec (B:Bk H bk bkAll) : ∀ (n:Nat),
    (∀ (t:TypeId) (l:List Ty),tyF P n t=some l→∀ (fuel:Nat) (cs:List Value) (x:DataW H × List MemPlace),DataW.trod enc P W 0 (fun _ => true) true fuel t cs=some x→bk x.1 ≤ LIM→
      cs.length=l.length∧∀ i,i < l.length→PT W (l.getD i .any) (cs.getD i undef))∧
    (∀ (o:Nat) (fs:List Field) (l:List Ty),tyFs P n o fs=some l→∀ (fuel:Nat) (cs:List Value) (xs:List (DataW H × List MemPlace)),o + l.length ≤ cs.length→(∀ (i:Nat) (f:Field),fs[i]? = some f→∃ y,xs[i]? = some y∧DataW.trod enc P W 0 (fun _ => true) true fuel f.type ((cs.drop f.offset).take (P.cellsOf f.type)) = some y)→(∀ y ∈ xs,bk y.1 ≤ LIM)→
      ∀ i,i < l.length→PT W (l.getD i .any) (cs.getD (o + i) undef)):=by
  intro n
  induction n with
  | zero => exact ⟨fun t l h => (by simp [tyF] at h),fun o fs l h => by simp [tyFs] at h⟩
  | succ n ih =>
    obtain ⟨ih1,ih2⟩:=ih
    refine ⟨fun t l h fuel cs x hx hbk => ?_,fun o fs l h fuel cs xs hlen hfs hbk => ?_⟩
    · simp only [tyF] at h
      split at h <;> try (cases h; done)
      · rename_i k hu
        cases h
        obtain ⟨m,rfl,_,_⟩:=DataW.trod_int hu hx
        exact ⟨rfl,fun i hi => by
          have:i=0:=by simp at hi; omega
          subst this; exact .inl (.int k m)⟩
      · rename_i hu
        cases h
        obtain ⟨m,rfl,_⟩:=DataW.trod_bool hu hx
        exact ⟨rfl,fun i hi => by
          have:i=0:=by simp at hi; omega
          subst this; exact .inl (.bool m)⟩
      · rename_i hu
        cases h
        obtain ⟨m,rfl,_⟩:=DataW.trod_string hu hx
        exact ⟨rfl,fun i hi => by
          have:i=0:=by simp at hi; omega
          subst this; exact .inl (.str m)⟩
      · rename_i e hu
        split at h <;> try (cases h; done)
        rename_i l0 hl0
        cases hc : (l0.all flatTy && (Nat.ble 1 l0.length && Nat.beq (P.cellsOf e) l0.length)) with
        | false => rw [hc] at h; cases h
        | true =>
          rw [hc] at h; cases h
          rw [Bool.and_eq_true,Bool.and_eq_true,Nat.beq_eq] at hc
          obtain ⟨hflat,hpos,hz⟩:=hc
          have hpos' : 1 ≤ l0.length:=Nat.le_of_ble_eq_true hpos
          have hne:l0 ≠ []:=by intro e; subst e; simp at hpos'
          refine ⟨?_,fun i hi => ?_⟩
          · rcases DataW.trod_slice hu hx with ⟨rfl,_⟩ | ⟨a,len,cap,_,_,_,_,rfl,_⟩ <;> rfl
          have:i=0:=by simp at hi; omega
          subst this
          rcases Go.Deep.open_slice hu hx with ⟨rfl,_⟩ | ⟨a,len,cap,m,n2,D,Pl,rfl,_,hl,hm,hmm,rfl,hel⟩
          · exact .inl (.nil false l0)
          · have hmm' : m=cap:=by simpa using hmm
            subst hmm'
            by_cases hcap:m=0
            · subst hcap
              obtain rfl:len=0:=by omega
              exact .inr ⟨l0,a,rfl,rfl,hne⟩
            · -- every cell
              have hb1:=B.slice ((List.range len).map D) ((List.range (m - len)).map fun j => D (len + j))
              have hlen:len ≤ LIM:=by
                have:=B.len ((List.range len).map D)
                simp only [List.length_map,List.length_range] at this
                have hbk' : bk (.slice ((List.range len).map D) ((List.range (m - len)).map fun j => D (len + j))) ≤ LIM:=hbk
                omega
              have hcell : ∀ p,p < m * l0.length→∃ v,W.cell? (a.add p) = some v∧OT W.heap.size W.heap (l0.getD (p % l0.length) .any) v:=fun p hp => by
                have hq:p / l0.length < m:=Nat.div_lt_of_lt_mul (by rw [Nat.mul_comm]; exact hp)
                have hr:p % l0.length < l0.length:=Nat.mod_lt _ hpos'
                obtain ⟨cs',h1,h2⟩:=hel (p / l0.length) hq
                have hbD:bk (D (p / l0.length)) ≤ LIM:=by
                  have hbk' : bk (.slice ((List.range len).map D) ((List.range (m - len)).map fun j => D (len + j))) ≤ LIM:=hbk
                  by_cases hql:p / l0.length < len
                  · have:=B.mem (D (p / l0.length)) ((List.range len).map D) (List.mem_map.2 ⟨_,List.mem_range.2 hql,rfl⟩)
                    omega
                  · have:=B.mem (D (p / l0.length)) ((List.range (m - len)).map fun j => D (len + j)) (List.mem_map.2 ⟨p / l0.length - len,List.mem_range.2 (by omega),by rw [show len + (p / l0.length - len) = p / l0.length by omega]⟩)
                    omega
                obtain ⟨g1,g2⟩:=ih1 e l0 hl0 n2 cs' _ h2 hbD
                obtain ⟨_,k2,k3⟩:=World.cells?_some h1
                have hz' : P.cellsOf e=l0.length:=hz
                rw [hz'] at k3
                have k4:=k3 (p % l0.length) hr
                rw [Go.Deep.add_add,show p / l0.length * l0.length + p % l0.length=p by rw [Nat.mul_comm]; exact Nat.div_add_mod p l0.length] at k4
                have hi' : p % l0.length < cs'.length:=by rw [g1]; exact hr
                refine ⟨cs'[p % l0.length],by rw [k4]; simp [hi'],?_⟩
                have:=g2 (p % l0.length) hr
                rw [show cs'.getD (p % l0.length) undef=cs'[p % l0.length] by simp [List.getD,hi']] at this
                refine pt_flat this ?_
                have hmem:l0.getD (p % l0.length) .any ∈ l0:=by
                  have:l0.getD (p % l0.length) .any=l0[p % l0.length]:=by simp [List.getD,hr]
                  rw [this]; exact List.getElem_mem hr
                exact List.all_eq_true.1 hflat _ hmem
              have hmz:0 < m * l0.length:=Nat.mul_pos (by omega) hpos'
              obtain ⟨v0,hv0,_⟩:=hcell 0 hmz
              obtain ⟨c,tt,fr,hh,_,hsp⟩:=cell_at hv0
              have hspot:=hsp rfl
              have hread : ∀ p,p < m * l0.length→a.off + p < c.size∧OT W.heap.size W.heap (l0.getD (p % l0.length) .any) (c.getD (a.off + p) undef):=fun p hp => by
                obtain ⟨v,hv,ho⟩:=hcell p hp
                obtain ⟨c2,t2,fr2,q1,q2,_⟩:=cell_at hv
                rw [hh] at q1; cases q1
                obtain ⟨q3,q4⟩:=Array.getElem?_eq_some_iff.1 q2
                refine ⟨q3,?_⟩
                rw [show c.getD (a.off + p) undef=v by simp [Array.getD,q3,q4]]; exact ho
              have hlm:len * l0.length ≤ m * l0.length:=Nat.mul_le_mul_right _ hl
              obtain ⟨nb,off,spot⟩:=a
              have hspot' : spot=none:=hspot
              subst hspot'
              refine .inl (.sl l0 nb off len m c tt fr hne (Array.getElem?_eq_some_iff.1 hh).1 hl hlen hh (fun _ => ?_) fun p hp => (hread p (by omega)).2)
              have:=(hread (m * l0.length - 1) (by omega)).1
              simp only at this
              omega
      · rename_i fs hu
        split at h <;> try (cases h; done)
        rename_i l1 hl1
        cases hc:Nat.beq (P.cellsOf t) l1.length with
        | false => rw [hc] at h; cases h
        | true =>
          rw [hc] at h; cases h
          rw [Nat.beq_eq] at hc
          obtain ⟨xs,n2,_,rfl,hcl,hxl,hall⟩:=DataW.trod_struct hu hx
          have hlen:cs.length=l.length:=by rw [hcl,hc]
          refine ⟨hlen,fun i hi => ?_⟩
          have hbk' : bk (.agg (xs.map (·.1))) ≤ LIM:=hbk
          have:=ih2 0 fs.toList l hl1 n2 cs xs (by omega) (fun j f hf => by
            have hf' : fs[j]? = some f:=by simpa using hf
            have h1:=hall j f hf'
            have hj:j < xs.length:=by
              rw [hxl]
              exact (Array.getElem?_eq_some_iff.1 hf').1
            exact ⟨xs[j],by simp [hj],by rw [h1]; simp [hj]⟩) (fun y hy => by
            have h1:=B.mem y.1 (xs.map (·.1)) (List.mem_map.2 ⟨y,hy,rfl⟩)
            have h2:=B.agg (xs.map (·.1))
            omega) i hi
          simpa using this
    · cases fs with
      | nil => simp only [tyFs] at h; cases h; intro i hi; simp at hi
      | cons f fs =>
        simp only [tyFs] at h
        split at h <;> try (cases h; done)
        rename_i l1 hl1
        cases hc : (Nat.beq f.offset o && Nat.beq (P.cellsOf f.type) l1.length) with
        | false => rw [hc] at h; cases h
        | true =>
          rw [hc,cond_true] at h
          rw [Bool.and_eq_true,Nat.beq_eq,Nat.beq_eq] at hc
          obtain ⟨ho,hz⟩:=hc
          split at h <;> try (cases h; done)
          rename_i r hr
          cases h
          intro i hi
          obtain ⟨y,hy1,hy2⟩:=hfs 0 f (by simp)
          rw [ho,hz] at hy2
          rw [List.length_append] at hlen hi
          by_cases hil:i < l1.length
          · obtain ⟨g1,g2⟩:=ih1 f.type l1 hl1 fuel _ y hy2 (hbk y (List.mem_of_getElem? hy1))
            have:=g2 i hil
            rw [getD_dt cs hil] at this
            rwa [show (l1++r).getD i .any=l1.getD i .any by simp [List.getD,List.getElem?_append_left hil]]
          · have:=ih2 (o + l1.length) fs r hr fuel cs xs.tail (by omega) (fun j f' hf' => by
              obtain ⟨y',h1,h2⟩:=hfs (j + 1) f' (by simpa using hf')
              exact ⟨y',by simpa [List.getElem?_tail] using h1,h2⟩) (fun y' hy' => hbk y' (List.mem_of_mem_tail hy')) (i - l1.length) (by omega)
            rw [show o + l1.length + (i - l1.length) = o + i by omega] at this
            rwa [show (l1++r).getD i .any=r.getD (i - l1.length) .any by simp [List.getD,List.getElem?_append_right (Nat.le_of_not_lt hil)]]
theorem pt_int {k:IntKind} {v:Value} (h:PT W (.int k) v) : ∃ n,v=.int k n:=by cases pt_flat h rfl; exact ⟨_,rfl⟩
theorem pt_sl {e:List Ty} {v:Value} {t u:TypeId} {b:Nat} (h:PT W (.sl false e) v) (hu:P.underlying t=some (.slice u)) (hv:Cell.okWide P W .any b t v):OT W.heap.size W.heap (.sl false e) v:=by
  rcases h with h | ⟨e',a,he,rfl,hne⟩
  · exact h
  · cases he
    simp only [Cell.okWide,hu,Cell.ok] at hv
    obtain ⟨_,_,_,hs,row,cells,hsh,_⟩:=hv
    unfold World.shape? at hsh
    split at hsh <;> try (cases hsh; done)
    rename_i c tt fr hc
    obtain ⟨n,k,sp⟩:=a
    have hs' : sp=none:=hs
    subst hs'
    exact .sl e n k 0 0 c tt fr hne (Array.getElem?_eq_some_iff.1 hc).1 (Nat.le_refl _) (Nat.zero_le _) hc (fun h => absurd h (Nat.lt_irrefl 0)) fun i hi => by simp at hi
theorem cell_ok {t:TypeId} {cs:Array Value} {b i:Nat} {ts:List TypeId} {v:Value} {u:TypeId} (h:Row.okWide P W .any b t cs) (hts:P.cellTypes P.depth t=some ts) (hi:cs[i]? = some v) (hu:ts[i % ts.length]? = some u):Cell.okWide P W .any b u v:=by
  obtain ⟨ts',h1,_,h3⟩:=h
  rw [hts] at h1; cases h1
  obtain ⟨u',h4,h5⟩:=h3 i v hi
  rw [hu] at h4; cases h4
  exact h5
end
theorem e0_wt {old:Array Obj} : WT (E0 old):=⟨Nat.le_refl _,fun n c e h => (by cases h),fun n c e h => (by cases h)⟩
theorem oldV_agg {old:Array Obj} {xr:Array Value} (h:OldR old xr):OldV old.size (.agg xr):=fun N φ => .agg _ _ rfl fun i hi => h i hi N φ
end Go.Proofs.Orl

namespace Go.Proofs.Orl
open Go
noncomputable section

def slQ (k:Nat):List Ty→List PF
  | [] => []
  | .sl _ _ :: r => .old k :: slQ (k + 1) r
  | _ :: r => slQ (k + 1) r
def start0 (ts:List Ty):Ss:={ k:=2 + ts.length,g:=[],ds:=[],h:=[⟨1,1,.row [.nils,.nils]⟩,⟨0,0,.row (frL 2 ts)⟩],ap:=[],t:=frT 2 ts,w:=[],f:=frF 2 ts,j:=true,q:=slQ 2 ts }
def cT (old:Array Obj) (xr:Array Value):Cx:=⟨0,A0 old xr,fun m => m=old.size + 1,fun _ => False,fun _ _ => True,fun _ _ _ _ => False⟩
def eT (old:Array Obj) (vs:List Value):En:=En.vec ⟨fun _ => 0,fun _ => undef,fun m => old.size + m,fun _ => false,fun _ => RS.no⟩ 2 vs
section
variable {P:Program} {old:Array Obj} {xr:Array Value} {vs:List Value} {ts:List Ty}
theorem cT_ok : (cT old xr).OK:=⟨by show (A0 old xr).B ≤ (A0 old xr).next; rw [a0_B,a0_next]; omega,fun k hk => ⟨by have hk:k=old.size + 1:=hk; show k < (A0 old xr).next; rw [a0_next]; omega,fun h => h⟩,fun _ h => h.elim,fun _ _ _ _ _ _ _ => trivial⟩
theorem eT_n {m:Nat} (h:m < 2) : (eT old vs).n m=old.size + m:=by simp [eT,En.vec,En.cat,h]
theorem slQ_ok {c:Cx} {e:En} : ∀ {ts:List Ty} {k:Nat} {vs:List Value},ts.length=vs.length→EnvAt e k vs→(∀ v ∈ vs,OldV c.H0.B v)→∀ x ∈ slQ k ts,x.ok c e:=by
  intro ts
  induction ts with
  | nil => intro k vs _ _ _ x hx; cases hx
  | cons T r ih =>
    intro k vs hl he ho x hx
    cases vs with
    | nil => simp at hl
    | cons v vs =>
      have hh:=he.head
      have hr : ∀ x ∈ slQ (k + 1) r,x.ok c e:=ih (by simpa using hl) he.tail fun u hu => ho u (by simp [hu])
      cases T <;> simp only [slQ] at hx <;> try exact hr x hx
      rcases List.mem_cons.1 hx with rfl | hx
      · show OldV c.H0.B (e.v k)
        rw [hh.2.1]; exact ho v (by simp)
      · exact hr x hx
theorem vts_len {H:SH} : ∀ {ts:List Ty} {vs:List Value},VTs H ts vs→ts.length=vs.length:=by
  intro ts
  induction ts with
  | nil => intro vs h; have:vs=[]:=h; subst this; rfl
  | cons T r ih => intro vs h; obtain ⟨v,l,rfl,_,h2⟩:=h; simp [ih h2]
theorem start_ok (hv:VTs (A0 old vs.toArray) ts vs) (ho : ∀ v ∈ vs,OldV old.size v):Sat (cT old vs.toArray) (eT old vs) (start0 ts) ⟨[],0,[],A0 old vs.toArray⟩:=by
  have hat:EnvAt (eT old vs) 2 vs:=vec_at _ _ _
  obtain ⟨f1,f2,f3⟩:=fresh_ok hv hat
  have hh : ∀ x ∈ (start0 ts).h,x=⟨1,1,.row [.nils,.nils]⟩∨x=⟨0,0,.row (frL 2 ts)⟩:=fun x hx => by simpa [start0] using hx
  refine ⟨rfl,fun t v h => (by cases h),rfl,a0_wt,.refl _,.refl _ _,fun x hx => ?_,?_,fun _ hp => (by cases hp),fun _ hp => (by cases hp),.nil,f2,fun _ hp => (by cases hp),f3,trivial,fun x hx => slQ_ok (vts_len hv) hat (fun v hv => (show OldV (cT old vs.toArray).H0.B v from ho v hv)) x hx⟩
  · rcases hh x hx with rfl | rfl
    · refine ⟨?_,?_,fun _ => ?_,fun h => (by cases h),fun h => h⟩
      · show (A0 old vs.toArray).get ((eT old vs).n 1) = _
        rw [eT_n (by omega)]; exact a0_h
      · show (eT old vs).n 1 < (A0 old vs.toArray).next
        rw [eT_n (by omega),a0_next]; omega
      · show (eT old vs).n 1=old.size + 1
        rw [eT_n (by omega)]
    · refine ⟨?_,?_,fun h => (by cases h),fun h => (by cases h),fun h => h⟩
      · show (A0 old vs.toArray).get ((eT old vs).n 0) = some (.row (evL (eT old vs) (frL 2 ts)).toArray .raw)
        rw [eT_n (by omega),f1]; exact a0_x
      · show (eT old vs).n 0 < (A0 old vs.toArray).next
        rw [eT_n (by omega),a0_next]; omega
  · show [(eT old vs).n 1,(eT old vs).n 0].Nodup
    rw [eT_n (by omega),eT_n (by omega)]
    simp

def grw (H:SH) (v:Value):SH:=match v with
  | .slice (some a) _ _ => (match H.get a.block with
    | some (.row c _) => H.put a.block (some (.row c .grow))
    | _ => H)
  | _ => H
theorem grw_rtg (H:SH) (v:Value):Rtg H (grw H v):=by
  unfold grw
  split
  · split
    · rename_i h; exact .step h (.refl _)
    · exact .refl _
  · exact .refl _
theorem grw_get {H:SH} {v:Value} {m:Nat} (h : ¬ apX v m) : (grw H v).get m=H.get m:=by
  unfold grw
  split
  · rename_i a l c
    split
    · rw [SH.get_put,if_neg (fun e => h (by subst e; rfl))]
    · rfl
  · rfl
theorem grw_old (H:SH) (v:Value) : (grw H v).old=H.old∧(grw H v).next=H.next∧(∀ n,(grw H v).live n ↔ H.live n):=by
  unfold grw
  split
  · split
    · exact ⟨(putF _ _ _).old,(putF _ _ _).next,(putF _ _ _).live⟩
    · exact ⟨rfl,rfl,fun _ => .rfl⟩
  · exact ⟨rfl,rfl,fun _ => .rfl⟩
def gsT:Bool→Ty→Bool
  | false,.int .i64 => true
  | false,.rng _ _ => true
  | true,.str => true
  | _,_ => false
theorem gsT_ok {H:SH} {b:Bool} {T:Ty} {v:Value} (h:gsT b T=true) (hv:VT H T v):LV b v:=by
  cases b with
  | false =>
    cases hv with
    | int k n => cases k <;> first | exact ⟨n,rfl⟩ | cases h
    | rng lo hi n => exact ⟨n,rfl⟩
    | _ => cases h
  | true =>
    cases hv with
    | str x => exact ⟨x,rfl⟩
    | _ => cases h
def gsK (b:Bool) (s:Ss):Lf→Bool
  | .nils => true
  | .var j => match lkp s.ap j with
    | some [T] => gsT b T && prv DEP s.f ⟨4398046511104,[(j,-1)]⟩
    | _ => false
  | _ => false
theorem gsK_ok {c:Cx} {e:En} {s:Ss} {st:St} (h:Sat c e s st) {b:Bool} {x:Lf} (hx:gsK b s x=true) : ∃ cs:Array Value,cs.size ≤ 4398046511104∧GV (grw st.H (x.ev e)) b (x.ev e) cs∧(∀ m,apX (x.ev e) m→(c.M m∨c.H0.next ≤ m)∧(∃ d,st.H.get m=some (.row d .raw))∧∀ y ∈ s.h,m ≠ e.n y.a)∧st.H.B=c.H0.B:=by
  have hB:st.H.B=c.H0.B:=h.le.B
  unfold gsK at hx
  split at hx <;> try (cases hx; done)
  · exact ⟨#[],by simp,.nil,fun m hm => (by cases hm),hB⟩
  · rename_i j
    split at hx <;> try (cases hx; done)
    rename_i T hT
    rw [Bool.and_eq_true] at hx
    have hp:=h.ap _ (lkp_mem hT)
    have hl:e.i j=slen (e.v j):=hp.l
    have hf:=prv_ok h.f hx.2
    have hle:slen (e.v j) ≤ 4398046511104:=by
      have : (⟨4398046511104,[(j,-1)]⟩ : Ln).ev e=4398046511104 - e.i j:=by simp [Ln.ev,evT]; omega
      rw [this,hl] at hf; omega
    show ∃ cs:Array Value,cs.size ≤ 4398046511104∧GV (grw st.H (e.v j)) b (e.v j) cs∧(∀ m,apX (e.v j) m→_)∧_
    rcases hp.v with hv | ⟨n,l,d,hv,h1,h2,h3,h4,h5,h6,h7⟩
    · have hv:e.v j=.slice none 0 0:=hv
      rw [hv]
      exact ⟨#[],by simp,.nil,fun m hm => (by cases hm),hB⟩
    · have hv:e.v j=.slice (some ⟨n,0,none⟩) l ([T] : List Ty).length:=hv
      have hsz:d.size=l:=by simpa using h4
      have hll:l ≤ 4398046511104:=by rw [hv] at hle; exact_mod_cast hle
      refine ⟨d,by omega,⟨fun i hi => ?_,.inr ⟨n,by rw [hv,hsz]; rfl,?_,?_,?_,by omega⟩⟩,fun m hm => ⟨hp.m m hm,?_,fun y hy e' => h.apn _ (lkp_mem hT) y hy (e' ▸ hm)⟩,hB⟩
      · have:=h6 i hi
        have e0 : ([T] : List Ty).getD (i % ([T] : List Ty).length) .any=T:=by simp [Nat.mod_one]
        rw [e0] at this
        exact gsT_ok hx.1 this
      · have : (grw st.H (e.v j)).B=st.H.B:=by unfold SH.B; rw [(grw_old _ _).1]
        rw [this,hB]; exact h1
      · rw [(grw_old _ _).2.1]; exact h2
      · rw [hv]; simp only [grw,h3]; simp
      · have:m=n:=by rw [hv] at hm; exact hm
        subst this; exact ⟨d,h3⟩
def boxK (s:Ss):Bool:=match fnd 1 s.h with
  | some ⟨_,_,.row [a,b]⟩ => gsK false s a && gsK true s b && (match a,b with
    | .var i,.var j => !Nat.beq i j
    | _,_ => true)
  | _ => false
theorem ap_apart {c:Cx} {e:En} {s:Ss} {st:St} (h:Sat c e s st) {i j:Nat} {T U:List Ty} (hi:lkp s.ap i=some T) (hj:lkp s.ap j=some U) (hne:i ≠ j) : ∀ m,apX (e.v i) m→¬ apX (e.v j) m:=by
  have h1:=lkp_mem hi
  have h2:=lkp_mem hj
  have hp:=h.apd
  generalize s.ap=l at h1 h2 hp
  induction l with
  | nil => cases h1
  | cons p l ih =>
    rw [List.pairwise_cons] at hp
    rcases List.mem_cons.1 h1 with e1 | h1' <;> rcases List.mem_cons.1 h2 with e2 | h2'
    · rw [← e1] at e2; exact absurd (congrArg Prod.fst e2).symm hne
    · intro m hm; have:=hp.1 _ h2' m (by rw [← e1]; exact hm); exact this
    · intro m hm hm2; exact hp.1 _ h1' m (by rw [← e2]; exact hm2) hm
    · exact ih h1' h2' hp.2
theorem boxK_ok {e e' : En} {s:Ss} {st:St} {k:Nat} (h:Sat (cT old xr) e' s st) (h1:e'.n 1=old.size + 1) (hb:boxK s=true) : ∃ A1,Rtg st.H A1∧KG (old.size + 1) (A0 old xr) A1∧HB A1 (old.size + 1) 4398046511104∧A1.old=st.H.old∧A1.next=st.H.next∧(∀ m,A1.get m=st.H.get m∨((∃ d,st.H.get m=some (.row d .raw))∧(∃ d,A1.get m=some (.row d .grow))∧∀ y ∈ s.h,m ≠ e'.n y.a)):=by
  unfold boxK at hb
  split at hb <;> try (cases hb; done)
  rename_i a0 fl x y hf
  simp only [Bool.and_eq_true] at hb
  obtain ⟨⟨b1,b2⟩,b3⟩:=hb
  obtain ⟨q1,q2⟩:=fnd_ok hf
  simp only at q2
  subst q2
  have hbox:=h.h _ q1
  have hget:st.H.get (old.size + 1) = some (.row #[x.ev e',y.ev e'] .raw):=by rw [← h1]; exact hbox.get
  obtain ⟨c1,k1,k2,k3,k4⟩:=gsK_ok h b1
  obtain ⟨c2,l1,l2,l3,_⟩:=gsK_ok h b2
  have hne : ∀ m,apX (x.ev e') m→¬ apX (y.ev e') m:=by
    intro m hm hm2
    unfold gsK at b1 b2
    split at b1 <;> try (cases b1; done)
    · cases hm
    · rename_i i
      split at b2 <;> try (cases b2; done)
      · cases hm2
      · rename_i j
        split at b1 <;> try (cases b1; done)
        rename_i T hT
        split at b2 <;> try (cases b2; done)
        rename_i U hU
        have hij:i ≠ j:=fun e => by subst e; simp at b3
        exact ap_apart h hT hU hij m hm hm2
  let A1:=grw (grw st.H (x.ev e')) (y.ev e')
  have hA : ∀ m,¬ apX (x.ev e') m→¬ apX (y.ev e') m→A1.get m=st.H.get m:=fun m h1 h2 => by
    show (grw (grw st.H _) _).get m=_
    rw [grw_get h2,grw_get h1]
  have o1:=grw_old st.H (x.ev e')
  have o2:=grw_old (grw st.H (x.ev e')) (y.ev e')
  have hbx : ¬ apX (x.ev e') (old.size + 1):=fun hm => (k3 _ hm).2.2 _ q1 h1.symm
  have hby : ¬ apX (y.ev e') (old.size + 1):=fun hm => (l3 _ hm).2.2 _ q1 h1.symm
  have hB:A1.B=(A0 old xr).B:=by
    have:A1.B=st.H.B:=by unfold SH.B; rw [o2.1,o1.1]
    rw [this]; exact k4
  have hn:A1.next=st.H.next:=o2.2.1.trans o1.2.1
  -- the two slices at the end
  have hgx:GV A1 false (x.ev e') c1:=by
    refine ⟨k2.1,k2.2.imp id fun ⟨n,g1,g2,g3,g4,g5⟩ => ⟨n,g1,?_,?_,?_,g5⟩⟩
    · have e1:A1.B=(grw st.H (x.ev e')).B:=by unfold SH.B; rw [o2.1]
      rw [e1]; exact g2
    · rw [o2.2.1]; exact g3
    · have hx:apX (x.ev e') n:=by rw [g1]; rfl
      show (grw (grw st.H _) _).get n=_
      rw [grw_get (hne n hx)]; exact g4
  have hgy:GV A1 true (y.ev e') c2:=by
    refine ⟨l2.1,l2.2.imp id fun ⟨n,g1,g2,g3,g4,g5⟩ => ⟨n,g1,?_,?_,?_,g5⟩⟩
    · have e1:A1.B=(grw st.H (y.ev e')).B:=by unfold SH.B; rw [o2.1,o1.1,(grw_old st.H (y.ev e')).1]
      rw [e1]; exact g2
    · rw [o2.2.1,o1.2.1,← (grw_old st.H (y.ev e')).2.1]; exact g3
    · have hy:apX (y.ev e') n:=by rw [g1]; rfl
      have hx : ¬ apX (x.ev e') n:=fun hx => hne n hx hy
      have e2 : (grw st.H (x.ev e')).get n=st.H.get n:=grw_get hx
      have e3 : (grw (grw st.H (x.ev e')) (y.ev e')).get n=(grw st.H (y.ev e')).get n:=by
        rw [g1]
        generalize grw st.H (x.ev e') = G at e2
        simp only [grw,e2]
        split <;> simp [e2]
      show (grw (grw st.H (x.ev e')) (y.ev e')).get n=_
      rw [e3]; exact g4
  refine ⟨A1,(grw_rtg _ _).trans (grw_rtg _ _),⟨?_,?_,fun m hm hX => ?_,fun m hm => ?_,fun m hm => ?_⟩,⟨_,_,c1,c2,⟨?_,hgx,hgy,hne,by rw [hB,a0_B]; omega,?_⟩,k1,l1⟩,by rw [o2.1,o1.1],hn,fun m => ?_⟩
  · rw [o2.1,o1.1]; exact h.kp.old
  · rw [hn]; exact h.kp.next
  · have hm2:m ≠ old.size + 1:=fun e1 => hX (.inl e1)
    have hmM : ¬ ((cT old xr).M m∨(cT old xr).X m):=fun hh => hh.elim (fun hh => hm2 hh) fun hh => hh
    have hno : ∀ v,(apX v m→((cT old xr).M m∨(cT old xr).H0.next ≤ m))→¬ apX v m:=fun v hv ha => (hv ha).elim (fun hh => hm2 hh) fun hh => by
      have hh : (A0 old xr).next ≤ m:=hh
      omega
    rw [hA m (hno _ fun ha => (k3 m ha).1) (hno _ fun ha => (l3 m ha).1)]
    exact h.kp.get m hm hmM
  · exact (o2.2.2 m).2 ((o1.2.2 m).2 (h.kp.live m hm))
  · exact h.kp.new m ((o1.2.2 m).1 ((o2.2.2 m).1 hm))
  · rw [hA _ hbx hby]; exact hget
  · rw [hn,← h1]; exact hbox.lt
  · by_cases hx:apX (x.ev e') m
    · refine .inr ⟨(k3 m hx).2.1,?_,(k3 m hx).2.2⟩
      rcases hgx.2 with ⟨g1,_⟩ | ⟨n,g1,_,_,g4,_⟩
      · rw [g1] at hx; cases hx
      · rw [g1] at hx; have:m=n:=hx; subst this; exact ⟨_,g4⟩
    · by_cases hy:apX (y.ev e') m
      · refine .inr ⟨(l3 m hy).2.1,?_,(l3 m hy).2.2⟩
        rcases hgy.2 with ⟨g1,_⟩ | ⟨n,g1,_,_,g4,_⟩
        · rw [g1] at hy; cases hy
        · rw [g1] at hy; have:m=n:=hy; subst this; exact ⟨_,g4⟩
      · exact .inl (hA m hx hy)

def ownT:List (Nat × Ty)→List Nat
  | [] => []
  | (j,.sl true _) :: r => j :: ownT r
  | _ :: r => ownT r
theorem ownT_mem {j:Nat} : ∀ {t:List (Nat × Ty)},j ∈ ownT t→∃ e,(j,Ty.sl true e) ∈ t:=by
  intro t
  induction t with
  | nil => intro h; cases h
  | cons p r ih =>
    intro h
    unfold ownT at h
    split at h
    · cases h
    · rename_i j' e r' heq
      cases heq
      rcases List.mem_cons.1 h with rfl | h
      · exact ⟨e,by simp⟩
      · obtain ⟨e',he⟩:=ih h; exact ⟨e',by simp [he]⟩
    · rename_i q r' _ heq
      cases heq
      obtain ⟨e',he⟩:=ih h; exact ⟨e',by simp [he]⟩
def sW (s:Ss):Ss:={ s with g:=[],ds:=[],h:=rowK s.h,ap:=[],w:=ownT s.t,j:=true }
def cW (A1:SH):Cx:=⟨0,rowH A1,fun m => m < (rowH A1).next∧∃ c e,(rowH A1).get m=some (.row c (.typed e)),fun _ => False,fun _ _ => True,fun _ _ _ _ => False⟩
theorem cW_ok {A1:SH} (h : (rowH A1).B ≤ (rowH A1).next) : (cW A1).OK:=⟨h,fun k hk => ⟨hk.1,fun h => h⟩,fun _ h => h.elim,fun _ _ _ _ _ _ _ => trivial⟩
theorem sW_ok {e' : En} {s:Ss} {st:St} {A1:SH} (h:Sat (cT old xr) e' s st) (o1:A1.old=st.H.old) (o2:A1.next=st.H.next) (o3 : ∀ m,A1.get m=st.H.get m∨((∃ d,st.H.get m=some (.row d .raw))∧(∃ d,A1.get m=some (.row d .grow))∧∀ y ∈ s.h,m ≠ e'.n y.a)) :
    Sat (cW A1) e' (sW s) ⟨[],0,[],rowH A1⟩:=by
  have hsub:=rowH_sub A1
  have hold : (rowH A1).old=st.H.old:=hsub.old.trans o1
  have hnext : (rowH A1).next=st.H.next:=hsub.next.trans o2
  have hB : (rowH A1).B=st.H.B:=by unfold SH.B; rw [hold]
  have hty : ∀ n c e,(rowH A1).get n=some (.row c (.typed e)) ↔ st.H.get n=some (.row c (.typed e)):=fun n c e => by
    constructor
    · intro hg
      have hg:=hsub.get n _ hg
      rcases o3 n with h1 | ⟨_,⟨d,h2⟩,_⟩
      · rw [← h1]; exact hg
      · rw [h2] at hg; cases hg
    · intro hg
      rcases o3 n with h1 | ⟨⟨d,h2⟩,_,_⟩
      · exact rowH_row (h1.trans hg)
      · rw [h2] at hg; cases hg
  have hle:Le st.H (rowH A1):=⟨hold,Nat.le_of_eq hnext.symm,fun n c e _ hg => ⟨c,(hty n c e).2 hg,rfl⟩⟩
  have wt:WT (rowH A1):=⟨by rw [hB,hnext]; exact h.wt.base,fun n c e hg => h.wt.ne n c e ((hty n c e).1 hg),fun n c e hg i hi => (h.wt.cell n c e ((hty n c e).1 hg) i hi).mono hle⟩
  have hB0 : (rowH A1).B=(cT old xr).H0.B:=hB.trans h.le.B
  have ho0 : (rowH A1).old=(cT old xr).H0.old:=hold.trans h.le.old
  refine ⟨rfl,fun t v hv => (by cases hv),rfl,wt,.refl _,.refl _ _,fun x hx => ?_,rowK_nd h.nd,fun _ hp => (by cases hp),fun _ hp => (by cases hp),.nil,fun p hp => ⟨(h.t p hp).1.mono hle,(h.t p hp).2⟩,fun j hj => ?_,h.f,trivial,fun x hx => ?_⟩
  · obtain ⟨y,y1,l,y2,rfl⟩:=rowK_mem hx
    have q:=h.h y y1
    have hg:A1.get (e'.n y.a) = some (.row (evL e' l).toArray .raw):=by
      rcases o3 (e'.n y.a) with h1 | ⟨_,_,h2⟩
      · rw [h1,q.get,y2]; rfl
      · exact absurd rfl (h2 y y1)
    exact ⟨rowH_row hg,by rw [hnext]; exact q.lt,fun h => (by cases h),fun h => (by cases h),fun h => h⟩
  · obtain ⟨es,he⟩:=ownT_mem hj
    have hv:=(h.t _ he).1
    refine ⟨fun m hm => ?_,es,hv.mono hle⟩
    have hv:VT st.H (.sl true es) (e'.v j):=hv
    generalize e'.v j=u at hv hm
    cases hv with
    | nil => cases hm
    | own _ _ n k l c h0 h1 h2 h3 h4 =>
      have:m=n:=hm
      subst this
      exact .inl ⟨by rw [hnext]; exact h3,c,es,(hty m c es).2 h4⟩
  · have hq:=h.q x hx
    show PF.ok (cW A1) e' x
    cases x <;> simp only [PF.ok,cW,hB0,ho0] <;> exact hq
def wipL:List Lf→Ss→Ss
  | [],s => s
  | .sl a 0 _ z :: r,s => wipL r (match fnd a s.h with
    | some ⟨_,_,.row l⟩ => (match tysOfL s (l.take z) with
      | some T => psS [.ap a T,.fz s.k] s
      | none => s)
    | _ => s)
  | .var j :: r,s => wipL r (fixA j s)
  | _ :: r,s => wipL r s
theorem wipL_ok {c:Cx} (hc:c.OK) : ∀ {l:List Lf} {s:Ss} {e:En} {st:St},Sat c e s st→Fx c e s (wipL l s) st:=by
  intro l
  induction l with
  | nil => intro s e st h; exact .refl h
  | cons x r ih =>
    intro s e st h
    unfold wipL
    split
    · rename_i heq; cases heq
    · rename_i heq; cases heq
      refine Fx.bind ?_ fun e st h => ih h
      split
      · split
        · exact psS_ok hc h
        · exact .refl h
      · exact .refl h
    · rename_i heq; cases heq
      exact Fx.bind (fixA_ok hc h) fun e st h => ih h
    · rename_i heq; cases heq
      exact ih h
def wipC:List (Nat × Nat)→Ss→Ss
  | [],s => s
  | (a,_) :: r,s => wipC r (match fnd a s.h with
    | some ⟨_,_,.row l⟩ => wipL l s
    | _ => s)
theorem wipC_ok {c:Cx} (hc:c.OK) : ∀ {l:List (Nat × Nat)} {s:Ss} {e:En} {st:St},Sat c e s st→Fx c e s (wipC l s) st:=by
  intro l
  induction l with
  | nil => intro s e st h; exact .refl h
  | cons x r ih =>
    obtain ⟨a,k⟩:=x
    intro s e st h
    refine Fx.bind (s1:=match fnd a s.h with
      | some ⟨_,_,.row l⟩ => wipL l s
      | _ => s) ?_ fun e st h => ih h
    split
    · exact wipL_ok hc h
    · exact .refl h
def endsK (iv:IvT):List (SV × Ss)→Sm→Bool
  | [],_ => true
  | (v,s) :: r,m => match v with
    | .lf (.fn f caps) => bC s.k caps && frcS (wipC caps s) fun s => boxK s && (match iv (sW s) f (capSV caps) m with
      | some (_,m) => endsK iv r m
      | none => false)
    | _ => false
theorem endsK_ok {iv:IvT} : ∀ {l:List (SV × Ss)} {m:Sm},endsK iv l m=true→∀ p ∈ l,∃ f caps m1 l2 m2,p.1=.lf (.fn f caps)∧bC p.2.k caps=true∧boxK (wipC caps p.2) = true∧iv (sW (wipC caps p.2)) f (capSV caps) m1=some (l2,m2):=by
  intro l
  induction l with
  | nil => intro m _ p hp; cases hp
  | cons q r ih =>
    obtain ⟨v,s⟩:=q
    intro m h p hp
    simp only [endsK,frcS_eq] at h
    split at h <;> try (cases h; done)
    rename_i f caps
    rw [Bool.and_eq_true,Bool.and_eq_true] at h
    obtain ⟨h0,h1,h2⟩:=h
    split at h2 <;> try (cases h2; done)
    rename_i l2 m2 h3
    rcases List.mem_cons.1 hp with rfl | hp
    · exact ⟨f,caps,m,l2,m2,rfl,h0,h1,h3⟩
    · exact ih h2 p hp
def topK (iv:IvT) (ts:List Ty) (k:Nat) (m:Sm):Bool:=match iv (start0 ts) k [.lf (.ptr 1 0),.lf (.ptr 0 0)] m with
  | some (l,m) => endsK iv l m
  | none => false
theorem topK_ok {iv:IvT} (hiv:IvOK P iv) {k:Nat} {m:Sm} (h:topK iv ts k m=true) (hv:VTs (A0 old vs.toArray) ts vs) (ho : ∀ v ∈ vs,OldV old.size v):CallW P k old vs.toArray:=by
  unfold topK at h
  split at h <;> try (cases h; done)
  rename_i l m1 h1
  obtain ⟨_,hw⟩:=hiv _ cT_ok _ _ _ _ _ _ h1
  have hs:=start_ok hv ho
  have hw:=hw _ _ hs
  have hargs : [SV.lf (.ptr 1 0),.lf (.ptr 0 0)].map (SV.ev (eT old vs)) = [Value.pointer (some ⟨old.size + 1,0,none⟩),.pointer (some ⟨old.size,0,none⟩)]:=by
    simp [SV.ev,Lf.ev,eT_n]
  rw [hargs] at hw
  refine callW (K:=4398046511104) (Nat.le_refl _) (wc_rtg (hw.mono fun v H' hq => ?_))
  obtain ⟨q,q1,e',q2,q3,q4,q5⟩:=hq
  obtain ⟨f,caps,m2,l2,m3,r1,r0,r2,r3⟩:=endsK_ok h q q1
  obtain ⟨e2,H2,w1,w2,w3,w4⟩:=wipC_ok cT_ok (l:=caps) q5
  have hk2:2 + ts.length ≤ q.2.k:=q2
  have hn1:e2.n 1=old.size + 1:=by
    rw [w1.n 1 (by omega),q3.n 1 (by show 1 < 2 + ts.length; omega),eT_n (by omega)]
  obtain ⟨A1,t1,t2,t3,t4,t5,t6⟩:=boxK_ok (k:=0) (e:=e2) w4 hn1 r2
  refine ⟨A1,w3.trans t1,t2,t3,f,capsV e2 caps,by rw [q4,r1,bC_ev w1 r0]; rfl,(hiv _ (cT_ok (old:=old) (xr:=vs.toArray)) _ _ _ _ _ _ r3).1,?_⟩
  have hsw:=sW_ok w4 t4 t5 t6
  obtain ⟨_,hw2⟩:=hiv _ (cW_ok hsw.wt.base) _ _ _ _ _ _ r3
  have hw2:=hw2 _ _ hsw
  rw [capSV_ev] at hw2
  refine hw2.mono fun u H3 hu => ?_
  obtain ⟨q',_,e4,_,_,_,q6⟩:=hu
  exact KeepX.weak q6.kp fun m hm => hm.elim (fun hm => hm.2) fun hm => hm.elim

def topA (iv:IvT) (ts:List Ty) (k:Nat) (m:Sm):Bool:=match iv (start0 ts) k [.agg (frL 2 ts),.lf (.ptr 1 0)] m with
  | some (l,_) => allP (fun p => boxK p.2) l
  | none => false
theorem topA_ok {iv:IvT} (hiv:IvOK P iv) {k:Nat} {m:Sm} (h:topA iv ts k m=true) (hv:VTs (A0 old vs.toArray) ts vs) (ho : ∀ v ∈ vs,OldV old.size v):AllW P k old vs.toArray:=by
  unfold topA at h
  split at h <;> try (cases h; done)
  rename_i l m1 h1
  obtain ⟨_,hw⟩:=hiv _ cT_ok _ _ _ _ _ _ h1
  have hs:=start_ok hv ho
  have hw:=hw _ _ hs
  have hfr:evL (eT old vs) (frL 2 ts) = vs:=(fresh_ok hv (vec_at _ _ _)).1
  have hargs : [SV.agg (frL 2 ts),.lf (.ptr 1 0)].map (SV.ev (eT old vs)) = [Value.agg vs.toArray,.pointer (some ⟨old.size + 1,0,none⟩)]:=by
    simp [SV.ev,Lf.ev,eT_n,hfr]
  rw [hargs] at hw
  refine allW (K:=4398046511104) (Nat.le_refl _) (wc_rtg (hw.mono fun v H' hq => ?_))
  obtain ⟨q,q1,e',q2,q3,q4,q5⟩:=hq
  have hn1:e'.n 1=old.size + 1:=by
    rw [q3.n 1 (by show 1 < 2 + ts.length; omega),eT_n (by omega)]
  obtain ⟨A1,t1,t2,t3,_⟩:=boxK_ok (k:=0) (e:=e') q5 hn1 (allP_ok h q q1)
  exact ⟨A1,t1,t2,t3⟩
end
end
end Go.Proofs.Orl
