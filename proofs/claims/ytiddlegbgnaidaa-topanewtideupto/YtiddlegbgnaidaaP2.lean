/- Part 2 of the proof of TopAnewTide: every call of the package puts the same twice, and changes no argument. Conditions: those of the statement, and no others. -/
import Derived.Test.YtiddlegbgnaidaaP1
import Derived.KernelRfl
import Derived.Test.YtiddlegbgnaidaaProg
namespace Go.Proofs.Orl
open Go

def minN {β:Type} (a b:Nat) (κ:Nat→Option β):Option β:=bif Nat.ble a b then κ a else κ b
theorem minN_eq {β:Type} (a b:Nat) (κ:Nat→Option β):minN a b κ=κ (min a b):=by
  unfold minN
  cases h:Nat.ble a b with
  | true => rw [Nat.min_eq_left (Nat.le_of_ble_eq_true h)]; rfl
  | false => rw [Nat.min_eq_right (by rw [← Bool.not_eq_true,Nat.ble_eq] at h; omega)]; rfl

def setB {β:Type} (eh:EH) (n:Nat) (x:Option EBlk) (κ:EH→Option β):Option β :=
  Bt.putK 40 eh.m n x fun m => minN eh.lw n fun lw => κ ⟨eh.next,m,lw⟩
def newB {β:Type} (eh:EH) (x:EBlk) (κ:EH→Option β):Option β :=
  Bt.putK 40 eh.m eh.next (some x) fun m => forceN (Nat.succ eh.next) fun nx => κ ⟨nx,m,eh.lw⟩

structure Go1 (eh eh' : EH) (H H' : SH):Prop where
  sim:SimH eh' H'
  keep:KeepX (fun m => eh'.lw ≤ m) H H'
  lw:eh'.lw ≤ eh.lw

theorem Go1.refl {eh:EH} {H:SH} (h:SimH eh H):Go1 eh eh H H:=⟨h,.refl _ _,Nat.le_refl _⟩
theorem Go1.trans {a b c:EH} {H H' H'' : SH} (x:Go1 a b H H') (y:Go1 b c H' H''):Go1 a c H H'' :=
  ⟨y.sim,(x.keep.weak fun m (h:b.lw ≤ m) => Nat.le_trans y.lw h).trans y.keep fun m h => .inl h,Nat.le_trans y.lw x.lw⟩

theorem setB_spec {β:Type} {eh:EH} {n:Nat} {x:EBlk} {κ:EH→Option β} {b:β} (h:setB eh n (some x) κ=some b) : ∃ eh',κ eh' = some b∧(∀ H y,SimH eh H→n < eh.next→BS x y→Go1 eh eh' H (H.put n (some y)))∧eh'.next=eh.next∧eh'.lw=min eh.lw n∧∀ m,eh'.m.get m=if m=n then some x else eh.m.get m:=by
  obtain ⟨m,h1,h2⟩:=Bt.putK_spec _ _ _ _ _ _ h
  rw [minN_eq] at h2
  refine ⟨_,h2,fun H y hH hn hb => ⟨⟨hH.next,fun k z hz => ?_,fun k z hz => ?_,hH.b⟩,?_,Nat.min_le_left _ _⟩,rfl,rfl,h1⟩
  · simp only [h1] at hz
    by_cases e:k=n
    · subst e; exact hn
    · simp only [e,if_false] at hz; exact hH.lt k z hz
  · simp only [h1] at hz
    rw [SH.get_put]
    by_cases e:k=n
    · subst e; simp only [if_true,Option.some.injEq] at hz ⊢; subst hz; exact ⟨y,rfl,hb⟩
    · simp only [e,if_false] at hz ⊢; exact hH.get k z hz
  · exact (putF H n (some y)).x.weak fun m hm => by subst hm; exact Nat.min_le_right _ _

theorem setB_none {β:Type} {eh:EH} {n:Nat} {κ:EH→Option β} {b:β} (h:setB eh n none κ=some b) : ∃ eh',κ eh' = some b∧(∀ H,SimH eh H→Go1 eh eh' H (H.put n none))∧eh'.next=eh.next∧∀ m,eh'.m.get m=if m=n then none else eh.m.get m:=by
  obtain ⟨m,h1,h2⟩:=Bt.putK_spec _ _ _ _ _ _ h
  rw [minN_eq] at h2
  refine ⟨_,h2,fun H hH => ⟨⟨hH.next,fun k z hz => ?_,fun k z hz => ?_,hH.b⟩,?_,Nat.min_le_left _ _⟩,rfl,h1⟩
  · simp only [h1] at hz
    by_cases e:k=n
    · subst e; simp at hz
    · simp only [e,if_false] at hz; exact hH.lt k z hz
  · simp only [h1] at hz
    rw [SH.get_put]
    by_cases e:k=n
    · subst e; simp at hz
    · simp only [e,if_false] at hz ⊢; exact hH.get k z hz
  · exact (putF H n none).x.weak fun m hm => by subst hm; exact Nat.min_le_right _ _

theorem newB_spec {β:Type} {eh:EH} {x:EBlk} {κ:EH→Option β} {b:β} (h:newB eh x κ=some b) : ∃ eh',κ eh' = some b∧(∀ H y,SimH eh H→BS x y→Go1 eh eh' H (H.new y))∧eh'.next=eh.next + 1∧eh'.lw=eh.lw∧∀ m,eh'.m.get m=if m=eh.next then some x else eh.m.get m:=by
  obtain ⟨m,h1,h2⟩:=Bt.putK_spec _ _ _ _ _ _ h
  rw [forceN_eq] at h2
  refine ⟨_,h2,fun H y hH hb => ⟨⟨by show H.next + 1=eh.next + 1; rw [hH.next],fun k z hz => ?_,fun k z hz => ?_,hH.b⟩,((newF H y).keep).x _,Nat.le_refl _⟩,rfl,rfl,h1⟩
  · simp only [h1] at hz
    by_cases e:k=eh.next
    · subst e; exact Nat.lt_succ_self _
    · simp only [e,if_false] at hz; exact Nat.lt_succ_of_lt (hH.lt k z hz)
  · simp only [h1] at hz
    rw [SH.get_new,hH.next]
    by_cases e:k=eh.next
    · subst e; simp only [if_true,Option.some.injEq] at hz ⊢; subst hz; exact ⟨y,rfl,hb⟩
    · simp only [e,if_false] at hz ⊢; exact hH.get k z hz

def apEf {β:Type} (eh:EH) (ef:Ef) (κ:EH→Option β):Option β:=match ef with
  | .none => κ eh
  | .new x => newB eh x κ
  | .put n x => bif Nat.blt n eh.next then setB eh n (some x) κ else none
  | .app n x => setB eh n none fun eh => newB eh x κ

theorem apEf_spec {β:Type} {P:Program} {o:Oper} {env:Bt Value} {eh:EH} {v:Value} {ef:Ef} {κ:EH→Option β} {b:β} (hS:Said P o env eh v ef) (h:apEf eh ef κ=some b) :
    ∃ eh',κ eh' = some b∧∀ s:St,SimE env s.g→SimH eh s.H→∃ H',OpV P o s v H'∧Go1 eh eh' s.H H':=by
  cases ef with
  | none => exact ⟨eh,h,fun s h1 h2 => ⟨s.H,hS s h1 h2,.refl h2⟩⟩
  | new x =>
    obtain ⟨eh',k,g,_⟩:=newB_spec h
    refine ⟨eh',k,fun s h1 h2 => ?_⟩
    obtain ⟨y,hb,ho⟩:=hS s h1 h2
    exact ⟨_,ho,g _ y h2 hb⟩
  | put n x =>
    simp only [apEf] at h
    cases hn:Nat.blt n eh.next with
    | false => rw [hn] at h; cases h
    | true =>
      rw [hn,cond_true] at h
      obtain ⟨eh',k,g,_⟩:=setB_spec h
      refine ⟨eh',k,fun s h1 h2 => ?_⟩
      obtain ⟨y,hb,ho⟩:=hS s h1 h2
      exact ⟨_,ho,g _ y h2 (Nat.le_of_ble_eq_true hn) hb⟩
  | app n x =>
    simp only [apEf] at h
    obtain ⟨e1,k1,g1,_⟩:=setB_none h
    obtain ⟨eh',k,g,_⟩:=newB_spec k1
    refine ⟨eh',k,fun s h1 h2 => ?_⟩
    obtain ⟨y,hb,ho⟩:=hS s h1 h2
    exact ⟨_,ho,(g1 _ h2).trans (g _ y (g1 _ h2).sim hb)⟩

structure ES where
  env:Bt Value
  n:Nat
  ds:List Nat
  eh:EH

structure Sim (x:ES) (s:St):Prop where
  env:SimE x.env s.g
  n:s.n=x.n
  ds:s.ds=x.ds.map mark
  eh:SimH x.eh s.H

def setD {β:Type} (env:Bt Value) (n:Nat) (d:Option Tmp) (v:Option Value) (κ:Bt Value→Option β):Option β:=match d with
  | none => κ env
  | some d => bif Nat.blt d n then Bt.putK 16 env d v κ else none
def noU (v:Value):Option Value:=bif isU v then none else some v

theorem setD_spec {β:Type} {env:Bt Value} {n:Nat} {d:Option Tmp} {v:Option Value} {u:Value} {κ:Bt Value→Option β} {b:β} (h:setD env n d v κ=some b) (hv:v=none∨v=some u) :
    ∃ env',κ env' = some b∧(∀ k,d=some k→k < n)∧∀ (s:St) (H:SH),SimE env s.g→SimE env' (s.put d u H).g:=by
  cases d with
  | none => exact ⟨env,h,by simp,fun s H hs => hs⟩
  | some d =>
    simp only [setD] at h
    cases hn:Nat.blt d n with
    | false => rw [hn] at h; cases h
    | true =>
      rw [hn,cond_true] at h
      obtain ⟨env',h1,h2⟩:=Bt.putK_spec _ _ _ _ _ _ h
      refine ⟨env',h2,fun k hk => by cases hk; exact Nat.le_of_ble_eq_true hn,fun s H hs t w hw => ?_⟩
      rw [h1] at hw
      show lk ((d,u) :: s.g) t=w
      rw [lk_cons]
      by_cases e:t=d
      · subst e
        simp only [if_true] at hw ⊢
        rcases hv with rfl | rfl
        · cases hw
        · exact Option.some.inj hw
      · simp only [e,if_false] at hw
        simp only [Ne.symm e,if_false]
        exact hs t w hw

theorem noU_or (v:Value):noU v=none∨noU v=some v:=by
  unfold noU; cases isU v <;> simp

def guardV (ops:List Oper) (env:Bt Value) (n:Nat) (g:Option (Nat × Bool)):Option Bool:=match g with
  | none => some true
  | some (j,want) => match ops[j]? with
    | some o => match o.dst with
      | some d => bif Nat.blt d n then (match env.get d with
        | some (.bool c) => some (bif c then want else !want)
        | _ => none) else none
      | none => none
    | none => none
theorem guardV_spec {ops:Array Oper} {env:Bt Value} {s:St} {o:Oper} {b:Bool} (h:guardV ops.toList env s.n o.guard=some b) (hs:SimE env s.g):wants ops s o b:=by
  unfold guardV at h
  unfold wants
  split at h
  · rename_i hg; cases h; rw [hg]
  · rename_i j want hg
    rw [hg]
    split at h <;> try (cases h; done)
    rename_i q hq
    split at h <;> try (cases h; done)
    rename_i d hd
    cases hn:Nat.blt d s.n with
    | false => rw [hn] at h; cases h
    | true =>
      rw [hn,cond_true] at h
      split at h <;> try (cases h; done)
      rename_i c hc
      cases h
      have hq' : ops[j]? = some q:=by simpa using hq
      refine ⟨d,c,by simp [hq',hd],Nat.le_of_ble_eq_true hn,hs d _ hc,?_⟩
      cases c <;> cases want <;> rfl

def callOf (env:Bt Value):Op→Option (Option (Value × List Value))
  | .call c => match c.callee with
    | .value fx => match evO env fx with
      | some fv => match evOs env c.args.toList with
        | some vs => some (some (fv,vs))
        | none => none
      | none => none
    | _ => some none
  | _ => some none
theorem callOf_spec {env:Bt Value} {s:St} {op:Op} {fv:Value} {vs:List Value} (h:callOf env op=some (some (fv,vs))) (hs:SimE env s.g) :
    ∃ fx xs ts,op=.call { callee:=.value fx,args:=List.toArray xs,argTypes:=ts }∧okO fx=true∧Evs s xs vs∧s.ev fx=fv:=by
  unfold callOf at h
  split at h <;> try (cases h; done)
  rename_i c
  split at h <;> try (cases h; done)
  rename_i fx hf
  split at h <;> try (cases h; done)
  rename_i fv' h1
  split at h <;> try (cases h; done)
  rename_i vs' h2
  cases h
  obtain ⟨callee,args,ts⟩:=c
  simp only at hf h2
  subst hf
  have:=evO_spec hs h1
  exact ⟨fx,args.toList,ts,by simp,this.1,evOs_spec hs h2,this.2⟩

abbrev CL:=Value→List Value→EH→Option (Value × EH)
def CLok (P:Program) (cl:CL):Prop:=∀ fv args eh v eh',cl fv args eh=some (v,eh')→∀ H,SimH eh H→∃ H',CallV P fv args H (.returned v) H'∧Go1 eh eh' H H'

def evIdx (tt:Bt TI) (cl:CL) (ops:List Oper):List Nat→ES→Option ES
  | [],x => some x
  | i :: l,x => match ops[i]? with
    | none => none
    | some o => match guardV ops x.env x.n o.guard with
      | none => none
      | some false => setD x.env x.n o.dst none fun env => evIdx tt cl ops l ⟨env,x.n,x.ds,x.eh⟩
      | some true => match callOf x.env o.op with
        | none => none
        | some (some (fv,vs)) => match cl fv vs x.eh with
          | none => none
          | some (v,eh) => setD x.env x.n o.dst (noU v) fun env => evIdx tt cl ops l ⟨env,x.n,x.ds,eh⟩
        | some none => match evOp tt x.env x.eh o.op with
          | none => none
          | some (v,ef) => apEf x.eh ef fun eh => setD x.env x.n o.dst (noU v) fun env => evIdx tt cl ops l ⟨env,x.n,x.ds,eh⟩

section
variable {P:Program} {tt:Bt TI} {cl:CL} {r:Option Nat}

theorem put_n (s:St) (d:Option Tmp) (v:Value) (H:SH) : (s.put d v H).n=s.n:=by cases d <;> rfl
theorem put_ds (s:St) (d:Option Tmp) (v:Value) (H:SH) : (s.put d v H).ds=s.ds:=by cases d <;> rfl

theorem evIdx_spec (ht:TOk P tt) (hcl:CLok P cl) {ops:Array Oper} : ∀ (l:List Nat) (x x' : ES),evIdx tt cl ops.toList l x=some x'→∀ s,Sim x s→∃ s',TO P r ops l s .normal s'∧Sim x' s'∧Go1 x.eh x'.eh s.H s'.H:=by
  intro l
  induction l with
  | nil => intro x x' h s hs; cases h; exact ⟨s,to_nil,hs,.refl hs.eh⟩
  | cons i l ih =>
    intro x x' h s hs
    simp only [evIdx] at h
    split at h <;> try (cases h; done)
    rename_i o ho
    have ho' : ops[i]? = some o:=by simpa using ho
    split at h <;> try (cases h; done)
    · rename_i hg
      rw [← hs.n] at hg
      have hw:=guardV_spec hg hs.env
      obtain ⟨env',h1,h2,h3⟩:=setD_spec (u:=undef) h (.inl rfl)
      rw [← hs.n] at h2
      obtain ⟨s',t1,t2,t3⟩:=ih _ _ h1 (s.put o.dst undef s.H) ⟨h3 s s.H hs.env,by rw [put_n]; exact hs.n,by rw [put_ds]; exact hs.ds,by rw [put_H]; exact hs.eh⟩
      exact ⟨s',to_skip ho' hw h2 t1,t2,by rw [put_H] at t3; exact t3⟩
    · rename_i hg
      rw [← hs.n] at hg
      have hw:=guardV_spec hg hs.env
      split at h <;> try (cases h; done)
      · rename_i fv vs hc
        split at h <;> try (cases h; done)
        rename_i v eh hcall
        obtain ⟨fx,xs,ts,e1,e2,e3,e4⟩:=callOf_spec hc hs.env
        obtain ⟨H',c1,c2⟩:=hcl _ _ _ _ _ hcall s.H hs.eh
        obtain ⟨env',h1,h2,h3⟩:=setD_spec (u:=v) h (noU_or v)
        rw [← hs.n] at h2
        obtain ⟨s',t1,t2,t3⟩:=ih _ _ h1 (s.put o.dst v H') ⟨h3 s H' hs.env,by rw [put_n]; exact hs.n,by rw [put_ds]; exact hs.ds,by rw [put_H]; exact c2.sim⟩
        exact ⟨s',to_callv ho' hw h2 e1 e2 e3 e4 c1 t1,t2,by rw [put_H] at t3; exact c2.trans t3⟩
      · split at h <;> try (cases h; done)
        rename_i v ef hop
        obtain ⟨eh,h0,hO⟩:=apEf_spec (evOp_spec ht hop) h
        obtain ⟨H',o1,o2⟩:=hO s hs.env hs.eh
        obtain ⟨env',h1,h2,h3⟩:=setD_spec (u:=v) h0 (noU_or v)
        rw [← hs.n] at h2
        obtain ⟨s',t1,t2,t3⟩:=ih _ _ h1 (s.put o.dst v H') ⟨h3 s H' hs.env,by rw [put_n]; exact hs.n,by rw [put_ds]; exact hs.ds,by rw [put_H]; exact o2.sim⟩
        exact ⟨s',to_val ho' hw h2 o1 t1,t2,by rw [put_H] at t3; exact o2.trans t3⟩
end

structure PE where
  i:Nat
  p:Nat
  k:CK
  ks:List Nat
  ps:Nat
  gs:List Nat

structure Plan where
  ms:List Nat
  sq:List PE
  tl:List Nat
  /-- what floats: (its index,what it reads,what its guard reads); the temporaries whose blocks the tail stores to; what the tail takes along -/
  fl:List (Nat × List Nat × List Nat)
  xt:List Nat
  k0:List Nat

structure SP where
  i:Nat
  p:Nat
  k:CK
  ks:List Nat
def CE.sp (e:CE):SP:=⟨e.i,e.p,e.k,e.ks⟩

def isPure:CK→Bool
  | .pure => true
  | _ => false
def SP.stop (e:SP) (n:Nat):Nat:=match e.k with | .pure => e.p | _ => Nat.succ n
def makesS:List SP→Nat→List Nat
  | [],_ => []
  | e :: Es,p => bif !isPure e.k && Nat.blt Es.length p then e.i :: makesS Es p else makesS Es p
def lookS:List SP→Nat→Option (Nat × SP)
  | [],_ => none
  | e :: Es,j => bif Nat.beq e.i j then some (Es.length,e) else lookS Es j
def bitN (m j:Nat):Bool:=Nat.beq (Nat.mod (Nat.div m (Nat.pow 2 j)) 2) 1
def findD (ops:List Oper) (t:Nat):List Nat→Option Nat
  | [] => none
  | j :: l => match ops[j]? with
    | some o => match o.dst with
      | some d => bif Nat.beq d t then some j else findD ops t l
      | none => findD ops t l
    | none => findD ops t l
def ckTmpS (ops:List Oper) (m:Nat) (hd:List Nat) (p:Nat) (Es:List SP) (t:Nat):Bool :=
  match findD ops t hd with
  | none => true
  | some j => bitN m j && match lookS Es j with | some (q,e) => Nat.ble (e.stop q) p | none => false
def allB {α:Type} (f:α→Bool):List α→Bool
  | [] => true
  | x :: l => bif f x then allB f l else false
def ckLinkS (ops:List Oper) (ms:List Nat) (hd:List Nat) (e:SP) (Es:List SP):Bool :=
  match e.k with
  | .bare => allB (ckTmpS ops (ms.getD e.i 0) hd 0 Es) e.ks
  | _ => allB (bitN (ms.getD e.i 0)) (makesS Es e.p) && allB (ckTmpS ops (ms.getD e.i 0) hd e.p Es) e.ks
def ckAllS (ops:List Oper) (ms:List Nat) (hd:List Nat):List SP→Bool
  | [] => true
  | e :: Es => bif ckLinkS ops ms hd e Es then ckAllS ops ms hd Es else false

theorem allB_eq {α:Type} (f:α→Bool) (l:List α):allB f l=l.all f:=by
  induction l with
  | nil => rfl
  | cons x l ih => simp only [allB,List.all_cons,ih]; cases f x <;> rfl
theorem bitN_eq (m j:Nat):bitN m j=m.testBit j:=by
  unfold bitN
  rw [beq_dec,Nat.testBit_eq_decide_div_mod_eq]; rfl
theorem makesS_eq (Es:List CE) : ∀ p,makesS (Es.map CE.sp) p=makes Es p:=by
  induction Es with
  | nil => intro p; rfl
  | cons e Es ih =>
    intro p
    simp only [List.map_cons,makesS,makes,ih,List.length_map,blt_dec]
    have : (!isPure e.sp.k && decide (Es.length < p)) = decide (e.k ≠ .pure∧Es.length < p):=by
      cases hk:e.k <;> simp [CE.sp,hk,isPure]
    rw [this]
    by_cases hc:e.k ≠ .pure∧Es.length < p
    · rw [if_pos hc,decide_eq_true hc]; rfl
    · rw [if_neg hc,decide_eq_false hc]; rfl
theorem lookS_eq (Es:List CE) (j:Nat):lookS (Es.map CE.sp) j=(lookCE Es j).map fun (q,e) => (q,e.sp):=by
  induction Es with
  | nil => rfl
  | cons e Es ih =>
    simp only [List.map_cons,lookS,lookCE,beq_dec,ih,List.length_map]
    by_cases h:e.i=j <;> simp [CE.sp,h]
theorem findD_eq (ops:Array Oper) (t:Nat) (hd:List Nat):findD ops.toList t hd=hd.find? fun j => dstOf ops j == some t:=by
  induction hd with
  | nil => rfl
  | cons j l ih =>
    simp only [findD,List.find?_cons,ih]
    have e0:ops.toList[j]? = ops[j]?:=by simp
    rw [e0]
    cases hj:ops[j]? with
    | none => simp [dstOf,hj]
    | some o =>
      cases hd' : o.dst with
      | none => simp [dstOf,hj,hd']
      | some d =>
        by_cases e:d=t
        · simp [dstOf,hj,hd',beq_dec,e]
        · have e' : (d == t) = false:=by rw [beq_eq_false_iff_ne]; exact e
          simp [dstOf,hj,hd',beq_dec,e,e']
theorem stopS_eq (e:CE) (q:Nat):e.sp.stop q=e.stop q:=by
  cases hk:e.k <;> simp [SP.stop,CE.stop,CE.sp,hk]
theorem ckTmpS_eq (ops:Array Oper) (ms hd:List Nat) (i p:Nat) (Es:List CE) (t:Nat):ckTmpS ops.toList (ms.getD i 0) hd p (Es.map CE.sp) t=ckTmp ops ms hd i p Es t:=by
  unfold ckTmpS ckTmp
  rw [findD_eq]
  split <;> rename_i h <;> rw [h]
  · rename_i j
    rw [bitN_eq,lookS_eq]
    simp only
    congr 1
    cases lookCE Es j with
    | none => rfl
    | some qe => obtain ⟨q,e⟩:=qe; simp only [Option.map_some,stopS_eq]; rw [Bool.eq_iff_iff]; simp
theorem ckAllS_eq (ops:Array Oper) (ms hd:List Nat) (Es:List CE):ckAllS ops.toList ms hd (Es.map CE.sp) = true→ckAll ops ms hd Es=true:=by
  induction Es with
  | nil => intro _; rfl
  | cons e Es ih =>
    intro h
    simp only [List.map_cons,ckAllS] at h
    cases hl:ckLinkS ops.toList ms hd e.sp (Es.map CE.sp) with
    | false => rw [hl] at h; cases h
    | true =>
      rw [hl,cond_true] at h
      simp only [ckAll,ih h,Bool.true_and]
      have e1 : ∀ p,allB (ckTmpS ops.toList (ms.getD e.i 0) hd p (Es.map CE.sp)) e.ks=e.ks.all (ckTmp ops ms hd e.i p Es):=fun p => by
        rw [allB_eq]; congr 1; funext t; exact ckTmpS_eq ..
      have e2 : ∀ p,allB (bitN (ms.getD e.i 0)) (makesS (Es.map CE.sp) p) = (makes Es p).all (fun j => (ms.getD e.i 0).testBit j):=fun p => by
        rw [allB_eq,makesS_eq]; congr 1; funext t; exact bitN_eq ..
      unfold ckLink
      cases hk:e.k <;> simp only [ckLinkS,CE.sp,hk,e1,e2] at hl ⊢ <;> exact hl
end Go.Proofs.Orl

namespace Go.Proofs.Orl
open Go

def pickE {β:Type} (env:Bt Value):List Nat→Bt Value→(Bt Value→Option β)→Option β
  | [],acc,κ => κ acc
  | t :: ks,acc,κ => match env.get t with
    | some v => Bt.putK 16 acc t (some v) fun acc => pickE env ks acc κ
    | none => pickE env ks acc κ
theorem pickE_spec {β:Type} {env:Bt Value} {κ:Bt Value→Option β} {b:β} : ∀ (ks:List Nat) (acc:Bt Value),pickE env ks acc κ=some b→∃ e',κ e' = some b∧∀ t v,e'.get t=some v→acc.get t=some v∨(t ∈ ks∧env.get t=some v):=by
  intro ks
  induction ks with
  | nil => intro acc h; exact ⟨acc,h,fun t v h => .inl h⟩
  | cons k ks ih =>
    intro acc h
    simp only [pickE] at h
    split at h
    · rename_i v hv
      obtain ⟨acc',h1,h2⟩:=Bt.putK_spec _ _ _ _ _ _ h
      obtain ⟨e',h3,h4⟩:=ih _ h2
      refine ⟨e',h3,fun t w hw => ?_⟩
      rcases h4 t w hw with g | ⟨g1,g2⟩
      · rw [h1] at g
        by_cases e:t=k
        · subst e; simp only [if_true] at g; cases g; exact .inr ⟨by simp,hv⟩
        · simp only [e,if_false] at g; exact .inl g
      · exact .inr ⟨by simp [g1],g2⟩
    · obtain ⟨e',h3,h4⟩:=ih _ h
      exact ⟨e',h3,fun t w hw => (h4 t w hw).imp id fun ⟨g1,g2⟩ => ⟨by simp [g1],g2⟩⟩

theorem lk_pick_mem {g:List (Nat × Value)} {t:Nat} : ∀ ks:List Nat,t ∈ ks→lk (pickG g ks) t=lk g t:=by
  intro ks
  induction ks with
  | nil => intro h; cases h
  | cons k ks ih =>
    intro h
    show lk ((k,lk g k) :: pickG g ks) t=lk g t
    rw [lk_cons]
    by_cases e:k=t
    · subst e; simp
    · simp only [e,if_false]
      rcases List.mem_cons.1 h with h | h
      · exact absurd h.symm e
      · exact ih h
theorem pick_sim {env e' : Bt Value} {g:List (Nat × Value)} {ks:List Nat} (hs:SimE env g) (h : ∀ t v,e'.get t=some v→(Bt.nil:Bt Value).get t=some v∨(t ∈ ks∧env.get t=some v)):SimE e' (pickG g ks):=fun t v hv => by
  rcases h t v hv with h | ⟨h1,h2⟩
  · cases h
  · rw [lk_pick_mem ks h1]; exact hs t v h2

def dupH (hs:List EH):List EH:=match hs with
  | [] => []
  | A :: l => A :: A :: l

def evDraw {β:Type} (tt:Bt TI) (cl:CL) (ops:List Oper) (n:Nat):List PE→Nat→Bt Value→List EH→List SP→(Bt Value→List EH→List SP→Option β)→Option β
  | [],_,env,hs,sp,κ => κ env hs sp
  | e :: l,k,env,hs,sp,κ => match ops[e.i]? with
    | none => none
    | some o => pickE env e.gs .nil fun ge => match guardV ops ge n o.guard with
      | none => none
      | some false => bif Nat.ble e.ps k then setD env n o.dst none fun env' => evDraw tt cl ops n l (Nat.succ k) env' (dupH hs) (⟨e.i,e.ps,.pure,e.gs⟩ :: sp) κ else none
      | some true => pickE env e.ks .nil fun ke => match guardV ops ke n o.guard with
        | some true => match e.k with
          | .pure => bif Nat.ble e.p k then (match hs[Nat.sub k e.p]? with
            | some A => match evOp tt ke A o.op with
              | some (v,.none) => setD env n o.dst (noU v) fun env' => evDraw tt cl ops n l (Nat.succ k) env' (dupH hs) (⟨e.i,e.p,.pure,e.ks⟩ :: sp) κ
              | _ => none
            | none => none) else none
          | .al => bif Nat.beq e.p k then (match hs with
            | A :: _ => match callOf ke o.op with
              | some (some (fv,vs)) => match cl fv vs ⟨A.next,A.m,A.next⟩ with
                | some (v,eh) => bif Nat.ble A.next eh.lw then setD env n o.dst (noU v) fun env' => evDraw tt cl ops n l (Nat.succ k) env' (⟨eh.next,eh.m,A.lw⟩ :: hs) (⟨e.i,e.p,.al,e.ks⟩ :: sp) κ else none
                | none => none
              | some none => match evOp tt ke A o.op with
                | some (v,.new x) => newB A x fun eh => setD env n o.dst (noU v) fun env' => evDraw tt cl ops n l (Nat.succ k) env' (eh :: hs) (⟨e.i,e.p,.al,e.ks⟩ :: sp) κ
                | _ => none
              | none => none
            | [] => none) else none
          | .bare => bif Nat.beq e.p k then (match hs with
            | A :: _ => match evOp tt ke ⟨A.next,.nil,A.lw⟩ o.op with
              | some (v,.new x) => newB A x fun eh => setD env n o.dst (noU v) fun env' => evDraw tt cl ops n l (Nat.succ k) env' (eh :: hs) (⟨e.i,e.p,.bare,e.ks⟩ :: sp) κ
              | _ => none
            | [] => none) else none
        | _ => none

section
variable {P:Program} {tt:Bt TI} {cl:CL} {r:Option Nat} {ops:Array Oper} {s:St} {L:Nat}

structure HsOk (L:Nat) (s:St) (Es:List CE) (hs:List EH):Prop where
  lw : ∀ A,A ∈ hs→A.lw=L
  len:hs.length=Es.length + 1
  sim : ∀ p A,p ≤ Es.length→hs[Es.length - p]? = some A→SimH A (hp s.H Es p)

theorem HsOk.dup {Es:List CE} {hs:List EH} {e:CE} (h:HsOk L s Es hs) (he:e.H=hp s.H Es Es.length):HsOk L s (e :: Es) (dupH hs):=by
  cases hs with
  | nil => have:=h.len; simp at this
  | cons A l =>
    refine ⟨fun B hB => h.lw B (by simpa [dupH] using hB),by have:=h.len; simp [dupH] at this ⊢; omega,fun p B hp' hB => ?_⟩
    simp only [List.length_cons] at hp' hB
    by_cases hpe:p=Es.length + 1
    · subst hpe
      rw [hp_top,he]
      have:B=A:=by simpa [dupH] using hB.symm
      subst this
      exact h.sim _ B (Nat.le_refl _) (by simp)
    · have hle:p ≤ Es.length:=by omega
      rw [hp_cons hle]
      refine h.sim p B hle ?_
      rw [show Es.length + 1 - p=(Es.length - p) + 1 by omega] at hB
      simpa [dupH] using hB

theorem HsOk.push {Es:List CE} {hs:List EH} {e:CE} {A:EH} (h:HsOk L s Es hs) (he:SimH A e.H) (hL:A.lw=L):HsOk L s (e :: Es) (A :: hs):=by
  refine ⟨fun B hB => (List.mem_cons.1 hB).elim (fun e => e ▸ hL) (h.lw B),by have:=h.len; simp; omega,fun p B hp' hB => ?_⟩
  simp only [List.length_cons] at hp' hB
  by_cases hpe:p=Es.length + 1
  · subst hpe
    rw [hp_top]
    have:B=A:=by simpa using hB.symm
    subst this
    exact he
  · have hle:p ≤ Es.length:=by omega
    rw [hp_cons hle]
    refine h.sim p B hle ?_
    rw [show Es.length + 1 - p=(Es.length - p) + 1 by omega] at hB
    simpa using hB

theorem genv_put {n:Nat} {Es:List CE} {e:CE} {o:Oper} {env env' : Bt Value} (ho:ops[e.i]? = some o) (he:SimE env (genv ops s.g Es)) (h : ∀ (s' : St) (H:SH),SimE env s'.g→SimE env' (s'.put o.dst e.v H).g):SimE env' (genv ops s.g (e :: Es)):=by
  have:=h ⟨genv ops s.g Es,n,[],s.H⟩ s.H he
  have hd:dstOf ops e.i=o.dst:=by simp [dstOf,ho]
  simp only [genv,hd]
  cases hdd:o.dst with
  | none => rw [hdd] at this; exact this
  | some d => rw [hdd] at this; exact this

theorem evDraw_spec {β:Type} (ht:TOk P tt) (hcl:CLok P cl) {κ:Bt Value→List EH→List SP→Option β} {b:β} : ∀ (l:List PE) (k:Nat) (env:Bt Value) (hs:List EH) (sp:List SP) (Es:List CE),
    evDraw tt cl ops.toList s.n l k env hs sp κ=some b→Chain P r ops s Es→SimE env (genv ops s.g Es)→HsOk L s Es hs→sp=Es.map CE.sp→k=Es.length→
    ∃ env' hs' Es',κ env' hs' (Es'.map CE.sp) = some b∧Chain P r ops s Es'∧SimE env' (genv ops s.g Es')∧HsOk L s Es' hs':=by
  intro l
  induction l with
  | nil => intro k env hs sp Es h hC he hh hsp hk; subst hsp; exact ⟨env,hs,Es,h,hC,he,hh⟩
  | cons e l ih =>
    intro k env hs sp Es h hC he hh hsp hk
    subst hsp; subst hk
    simp only [evDraw] at h
    split at h <;> try (cases h; done)
    rename_i o ho
    have ho' : ops[e.i]? = some o:=by simpa using ho
    obtain ⟨ge,h1,h2⟩:=pickE_spec _ _ h
    have hge:=pick_sim he h2
    split at h1 <;> try (cases h1; done)
    · -- skipped
      rename_i hg
      cases hp' : Nat.ble e.ps Es.length with
      | false => rw [hp'] at h1; cases h1
      | true =>
        rw [hp',cond_true] at h1
        obtain ⟨env',k1,k2,k3⟩:=setD_spec (u:=undef) h1 (.inl rfl)
        have hw:wants ops (opSt ops s Es e.gs (hp s.H Es e.ps)) o false:=guardV_spec (s:=opSt ops s Es e.gs (hp s.H Es e.ps)) hg hge
        have hC':=Chain.pure e.i e.ps e.gs undef (hp s.H Es Es.length) hC (Nat.le_of_ble_eq_true hp') rfl (step_skip ho' hw k2)
        exact ih _ _ _ _ _ k1 hC' (genv_put (n:=s.n) (e:=⟨e.i,e.ps,.pure,e.gs,undef,hp s.H Es Es.length⟩) ho' he k3) (hh.dup rfl) rfl rfl
    · obtain ⟨ke,h3,h4⟩:=pickE_spec _ _ h1
      have hke:=pick_sim he h4
      split at h3 <;> try (cases h3; done)
      rename_i hg
      have hw : ∀ A,wants ops (opSt ops s Es e.ks A) o true:=fun A => guardV_spec (s:=opSt ops s Es e.ks A) hg hke
      split at h3
      · -- pure
        rename_i hk
        cases hp' : Nat.ble e.p Es.length with
        | false => rw [hp'] at h3; cases h3
        | true =>
          rw [hp',cond_true] at h3
          split at h3 <;> try (cases h3; done)
          rename_i A hA
          split at h3 <;> try (cases h3; done)
          rename_i v hop
          obtain ⟨env',k1,k2,k3⟩:=setD_spec (u:=v) h3 (noU_or v)
          have hsim:=hh.sim e.p A (Nat.le_of_ble_eq_true hp') hA
          have hO:OpV P o (opSt ops s Es e.ks (hp s.H Es e.p)) v (hp s.H Es e.p):=evOp_spec ht hop (opSt ops s Es e.ks (hp s.H Es e.p)) hke hsim
          have hC':=Chain.pure e.i e.p e.ks v (hp s.H Es Es.length) hC (Nat.le_of_ble_eq_true hp') rfl (step_val ho' (hw _) k2 hO)
          exact ih _ _ _ _ _ k1 hC' (genv_put (n:=s.n) (e:=⟨e.i,e.p,.pure,e.ks,v,hp s.H Es Es.length⟩) ho' he k3) (hh.dup rfl) rfl rfl
      · -- al
        cases hp' : Nat.beq e.p Es.length with
        | false => rw [hp'] at h3; cases h3
        | true =>
          rw [hp',cond_true] at h3
          have hpe:=Nat.eq_of_beq_eq_true hp'
          split at h3 <;> try (cases h3; done)
          rename_i A hrest
          have hsim:SimH A (hp s.H Es Es.length):=hh.sim Es.length A (Nat.le_refl _) (by simp)
          split at h3 <;> try (cases h3; done)
          · rename_i fv vs hc
            split at h3 <;> try (cases h3; done)
            rename_i v eh hcall
            cases hlw:Nat.ble A.next eh.lw with
            | false => rw [hlw] at h3; cases h3
            | true =>
              rw [hlw,cond_true] at h3
              obtain ⟨env',k1,k2,k3⟩:=setD_spec (u:=v) h3 (noU_or v)
              obtain ⟨fx,xs,ts,e1,e2,e3,e4⟩:=callOf_spec (s:=opSt ops s Es e.ks (hp s.H Es Es.length)) hc hke
              obtain ⟨H',c1,c2⟩:=hcl _ _ _ _ _ hcall (hp s.H Es Es.length) ⟨hsim.next,hsim.lt,hsim.get,hsim.b⟩
              have hkeep:Keep (hp s.H Es Es.length) H':=c2.keep.k fun m hm => by rw [hsim.next]; exact Nat.le_trans (Nat.le_of_ble_eq_true hlw) hm
              have hd:dOk o s.n=true:=by
                unfold dOk; split
                · rfl
                · rename_i d hd; exact Nat.ble_eq_true_of_le (k2 _ hd)
              have hC':=Chain.al e.i e.p e.ks v H' hC hpe (step_callv (s:=opSt ops s Es e.ks (hp s.H Es Es.length)) ho' (hw _) hd e1 e2 e3 e4 c1) hkeep
              exact ih _ _ _ _ _ k1 hC' (genv_put (n:=s.n) (e:=⟨e.i,e.p,.al,e.ks,v,H'⟩) ho' he k3) (hh.push ⟨c2.sim.next,c2.sim.lt,c2.sim.get,c2.sim.b⟩ (hh.lw A (by simp))) rfl rfl
          · split at h3 <;> try (cases h3; done)
            rename_i v x hop
            obtain ⟨eh,q1,q2,q3,q4,q5⟩:=newB_spec h3
            obtain ⟨env',k1,k2,k3⟩:=setD_spec (u:=v) q1 (noU_or v)
            obtain ⟨y,hb,hO⟩:=evOp_spec ht hop (opSt ops s Es e.ks (hp s.H Es Es.length)) hke hsim
            have hC':=Chain.al e.i e.p e.ks v ((hp s.H Es Es.length).new y) hC hpe (step_val ho' (hw _) k2 hO) (newF _ _).keep
            exact ih _ _ _ _ _ k1 hC' (genv_put (n:=s.n) (e:=⟨e.i,e.p,.al,e.ks,v,(hp s.H Es Es.length).new y⟩) ho' he k3) (hh.push (q2 _ y hsim hb).sim (q4.trans (hh.lw A (by simp)))) rfl rfl
      · -- bare
        cases hp' : Nat.beq e.p Es.length with
        | false => rw [hp'] at h3; cases h3
        | true =>
          rw [hp',cond_true] at h3
          have hpe:=Nat.eq_of_beq_eq_true hp'
          split at h3 <;> try (cases h3; done)
          rename_i A hrest
          have hsim:SimH A (hp s.H Es Es.length):=hh.sim Es.length A (Nat.le_refl _) (by simp)
          split at h3 <;> try (cases h3; done)
          rename_i v x hop
          obtain ⟨eh,q1,q2,q3,q4,q5⟩:=newB_spec h3
          obtain ⟨env',k1,k2,k3⟩:=setD_spec (u:=v) q1 (noU_or v)
          have hsB : (bareH s (hp s.H Es Es.length)).B=0:=hsim.b
          have hb0:SimH ⟨A.next,.nil,A.lw⟩ (bareH s (hp s.H Es Es.length)):=⟨hsim.next,fun n x h => (by cases h),fun n x h => (by cases h),hsB⟩
          obtain ⟨y,hb,hO⟩:=evOp_spec ht hop (opSt ops s Es e.ks (bareH s (hp s.H Es Es.length))) hke hb0
          have hC':=Chain.bare e.i e.p e.ks v y hC hpe (step_val ho' (hw _) k2 hO)
          exact ih _ _ _ _ _ k1 hC' (genv_put (n:=s.n) (e:=⟨e.i,e.p,.bare,e.ks,v,(hp s.H Es Es.length).new y⟩) ho' he k3) (hh.push (q2 _ y hsim hb).sim (q4.trans (hh.lw A (by simp)))) rfl rfl

def evReg (tt:Bt TI) (cl:CL) (ops:Array Oper) (pl:Plan) (x:ES):Option ES :=
  evDraw tt cl ops.toList x.n pl.sq 0 x.env [x.eh] [] fun env hs sp => match hs with
    | A :: _ => bif ckSet ops pl.ms (sp.map (·.i)) pl.tl && ckAllS ops.toList pl.ms (sp.map (·.i)) sp then evIdx tt cl ops.toList pl.tl ⟨env,x.n,x.ds,A⟩ else none
    | [] => none

theorem evReg_spec (ht:TOk P tt) (hcl:CLok P cl) (hm:P.follows .mixedOrders=true) {id:Nat} {pl:Plan} {x x' : ES} (h:evReg tt cl ops pl x=some x') (hs:Sim x s) : ∃ s',TC P r (.region id ops true) s .normal s'∧Sim x' s'∧Go1 x.eh x'.eh s.H s'.H:=by
  unfold evReg at h
  rw [← hs.n] at h
  obtain ⟨env,hs',Es,h1,hC,he,hh⟩:=evDraw_spec (r:=r) ht hcl _ _ _ _ _ [] h .nil hs.env (L:=x.eh.lw) ⟨fun A hA => by rw [List.mem_singleton.1 hA],rfl,fun p A hp' hA => by
    have:p=0:=by simpa using hp'
    subst this
    have:A=x.eh:=by simpa using hA.symm
    subst this; exact hs.eh⟩ rfl rfl
  split at h1 <;> try (cases h1; done)
  rename_i A rest
  have hmap : (Es.map CE.sp).map (·.i) = Es.map (·.i):=by rw [List.map_map]; rfl
  rw [hmap] at h1
  cases hc : (ckSet ops pl.ms (Es.map (·.i)) pl.tl && ckAllS ops.toList pl.ms (Es.map (·.i)) (Es.map CE.sp)) with
  | false => rw [hc] at h1; cases h1
  | true =>
    rw [hc,cond_true] at h1
    rw [Bool.and_eq_true] at hc
    have hsim:SimH A (hp s.H Es Es.length):=hh.sim Es.length A (Nat.le_refl _) (by simp)
    have hk:=hC.keep0 (Nat.le_refl Es.length)
    obtain ⟨s',t1,t2,t3⟩:=evIdx_spec (r:=r) ht hcl _ _ _ h1 ⟨genv ops s.g Es,s.n,s.ds,hp s.H Es Es.length⟩ ⟨he,rfl,hs.ds,hsim⟩
    obtain ⟨e,s2,g1,g2⟩:=w_draw (Q:=fun e s2 => e=.normal∧Sim x' s2∧Go1 A x'.eh (hp s.H Es Es.length) s2.H) (id:=id) hm pl.ms hC hc.1 (ckAllS_eq _ _ _ _ hc.2) ⟨_,s',t1,rfl,t2,t3⟩
    obtain ⟨rfl,g3,g4⟩:=g2
    exact ⟨s2,g1,g3,g4.sim,(hk.x _).trans g4.keep fun m h => .inl h,by have:=hh.lw A (by simp); have:=g4.lw; omega⟩
end
end Go.Proofs.Orl

namespace Go.Proofs.Orl
open Go

def ckFlS (ops:Array Oper) (fl tl:List Nat):List SP→Bool
  | [] => true
  | e :: Es => (!fl.contains e.i || e.ks.all fun t => tl.all fun x => !(dstOf ops x == some t)) && ckFlS ops fl tl Es
theorem ckFlS_eq (ops:Array Oper) (fl tl:List Nat) : ∀ Es:List CE,ckFlS ops fl tl (Es.map CE.sp) = ckFl ops fl tl Es:=by
  intro Es
  induction Es with
  | nil => rfl
  | cons e Es ih => simp only [List.map_cons,ckFlS,ckFl,ih]; rfl

def namesOf (env:Bt Value):List Nat→Option (List Nat)
  | [] => some []
  | t :: l => match env.get t with
    | some (.pointer (some a)) => match namesOf env l with
      | some r => some (a.block :: r)
      | none => none
    | _ => none
def dropE {β:Type} (m:Bt EBlk):List Nat→(Bt EBlk→Option β)→Option β
  | [],κ => κ m
  | n :: l,κ => dropE m l fun m => Bt.putK 64 m n none κ
theorem dropE_spec {β:Type} {m:Bt EBlk} {b:β} : ∀ (xs:List Nat) (κ:Bt EBlk→Option β),dropE m xs κ=some b→∃ m',κ m' = some b∧∀ k,m'.get k=if k ∈ xs then none else m.get k:=by
  intro xs
  induction xs with
  | nil => intro κ h; exact ⟨m,h,fun k => by simp⟩
  | cons n l ih =>
    intro κ h
    obtain ⟨m1,h1,h2⟩:=ih _ h
    obtain ⟨m2,h3,h4⟩:=Bt.putK_spec _ _ _ _ _ _ h1
    refine ⟨m2,h4,fun k => ?_⟩
    rw [h3,h2]
    by_cases e:k=n
    · simp [e]
    · simp [e]

abbrev FV:=List (Nat × Nat × Value)
def evFl {β:Type} (tt:Bt TI) (ops:List Oper) (n:Nat) (D:EH):List (Nat × List Nat × List Nat)→Bt Value→List SP→FV→(Bt Value→List SP→FV→Option β)→Option β
  | [],env,sp,fv,κ => κ env sp fv
  | (i,ks,gs) :: l,env,sp,fv,κ => match ops[i]? with
    | none => none
    | some o => pickE env gs .nil fun ge => match guardV ops ge n o.guard with
      | none => none
      | some false => setD env n o.dst none fun env' => evFl tt ops n D l env' (⟨i,0,.pure,gs⟩ :: sp) fv κ
      | some true => pickE env ks .nil fun ke => match guardV ops ke n o.guard with
        | some true => match evOp tt ke D o.op with
          | some (v,.none) => setD env n o.dst (noU v) fun env' => evFl tt ops n D l env' (⟨i,0,.pure,ks⟩ :: sp) (match o.dst with | some t => (i,t,v) :: fv | none => fv) κ
          | _ => none
        | _ => none

def impE {β:Type} (ok:Nat→Bool):FV→Bt Value→(Bt Value→Option β)→Option β
  | [],env,κ => κ env
  | (j,t,v) :: l,env,κ => bif ok j then (match noU v with
    | some v => Bt.putK 16 env t (some v) fun env => impE ok l env κ
    | none => impE ok l env κ) else impE ok l env κ

def evTl (tt:Bt TI) (ops:List Oper) (ms:List Nat) (n:Nat) (xs:List Nat) (fv:FV):List Nat→Bt Value→EH→Option (Bt Value × EH)
  | [],env,eh => impE (fun _ => true) fv env fun env => some (env,eh)
  | i :: l,env,eh => impE (fun j => bitN (ms.getD i 0) j) fv env fun env => match ops[i]? with
    | none => none
    | some o => match guardV ops env n o.guard with
      | none => none
      | some false => setD env n o.dst none fun env' => evTl tt ops ms n xs fv l env' eh
      | some true => match evOp tt env eh o.op with
        | some (v,.none) => setD env n o.dst (noU v) fun env' => evTl tt ops ms n xs fv l env' eh
        | some (v,.new x) => newB eh x fun eh => setD env n o.dst (noU v) fun env' => evTl tt ops ms n xs fv l env' eh
        | some (v,.put m x) => bif Nat.blt m eh.next && xs.any (Nat.beq m) then setB eh m (some x) fun eh => setD env n o.dst (noU v) fun env' => evTl tt ops ms n xs fv l env' eh else none
        | _ => none

def fst3:List (Nat × List Nat × List Nat)→List Nat
  | [] => []
  | (i,_,_) :: l => i :: fst3 l

def evRegF (tt:Bt TI) (cl:CL) (ops:Array Oper) (pl:Plan) (x:ES):Option ES :=
  evDraw tt cl ops.toList x.n pl.sq 0 x.env [x.eh] [] fun env hs sp => match hs with
    | A :: _ => match namesOf env pl.xt with
      | none => none
      | some xs => dropE x.eh.m xs fun m => evFl tt ops.toList x.n ⟨x.eh.next,m,x.eh.lw⟩ pl.fl env sp [] fun env2 sp2 fv =>
        bif (sp.map (·.i)).all (fun j => !(fst3 pl.fl).contains j) && (ckSetF ops pl.ms (sp2.map (·.i)) (fst3 pl.fl) pl.tl pl.k0 && (ckAllS ops.toList pl.ms (sp2.map (·.i)) sp2 && ckFlS ops (fst3 pl.fl) pl.tl sp2)) then
          pickE env2 pl.k0 .nil fun env3 => match evTl tt ops.toList pl.ms x.n xs fv pl.tl env3 A with
            | some (env4,eh4) => some ⟨env4,x.n,x.ds,eh4⟩
            | none => none
        else none
    | [] => none

section
variable {P:Program} {tt:Bt TI} {cl:CL} {r:Option Nat} {ops:Array Oper} {s:St}

def FvOk (ops:Array Oper) (fl:List Nat) (Es:List CE) (fv:FV):Prop:=∀ j t v,(j,t,v) ∈ fv→j ∈ fl∧dstOf ops j=some t∧∃ pre e Fs,Es=pre++e :: Fs∧e.i=j∧e.v=v

theorem evFl_spec {β:Type} (ht:TOk P tt) {fl xs:List Nat} {D:EH} (hD:SimH D (dropH s.H xs)) {κ:Bt Value→List SP→FV→Option β} {b:β} : ∀ (l:List (Nat × List Nat × List Nat)) (env:Bt Value) (Es:List CE) (fv:FV),
    evFl tt ops.toList s.n D l env (Es.map CE.sp) fv κ=some b→(∀ i ∈ fst3 l,i ∈ fl)→Chain P r ops s Es→SimE env (genv ops s.g Es)→FlOk P r ops s fl xs Es→FvOk ops fl Es fv→
    ∃ env' Es' fv',κ env' (Es'.map CE.sp) fv' = some b∧Chain P r ops s Es'∧SimE env' (genv ops s.g Es')∧FlOk P r ops s fl xs Es'∧FvOk ops fl Es' fv'∧hp s.H Es' Es'.length=hp s.H Es Es.length:=by
  intro l
  induction l with
  | nil => intro env Es fv h _ hC he hF hv; exact ⟨env,Es,fv,h,hC,he,hF,hv,rfl⟩
  | cons q l ih =>
    obtain ⟨i,ks,gs⟩:=q
    intro env Es fv h hfl hC he hF hv
    simp only [evFl] at h
    split at h <;> try (cases h; done)
    rename_i o ho
    have ho' : ops[i]? = some o:=by simpa using ho
    have hil:i ∈ fl:=hfl i (by simp [fst3])
    have hfl' : ∀ j ∈ fst3 l,j ∈ fl:=fun j hj => hfl j (by simp [fst3,hj])
    obtain ⟨ge,h1,h2⟩:=pickE_spec _ _ h
    have hge:=pick_sim he h2
    have hvc : ∀ e:CE,FvOk ops fl (e :: Es) fv:=fun e j t v hm => by
      obtain ⟨g1,g2,pre,f,Fs,g3,g4,g5⟩:=hv j t v hm
      exact ⟨g1,g2,e :: pre,f,Fs,by rw [g3]; rfl,g4,g5⟩
    split at h1 <;> try (cases h1; done)
    · rename_i hg
      obtain ⟨env',k1,k2,k3⟩:=setD_spec (u:=undef) h1 (.inl rfl)
      have hw:wants ops (opSt ops s Es gs (dropH s.H xs)) o false:=guardV_spec (s:=opSt ops s Es gs (dropH s.H xs)) hg hge
      have hd:dOk o s.n=true:=by
        unfold dOk; split
        · rfl
        · rename_i d hd; exact Nat.ble_eq_true_of_le (k2 _ hd)
      obtain ⟨C2,S2⟩:=ch_fltS hC rfl rfl ho' hw hd
      obtain ⟨e1,E1,f1,r1,r2,r3,r4,r5,r6⟩:=ih _ (⟨i,0,.pure,gs,undef,hp s.H Es Es.length⟩ :: Es) _ k1 hfl' C2 (genv_put (n:=s.n) ho' he k3) ⟨fun _ => ⟨rfl,rfl,S2⟩,hF⟩ (hvc _)
      exact ⟨e1,E1,f1,r1,r2,r3,r4,r5,r6.trans hp_top⟩
    · obtain ⟨ke,h3,h4⟩:=pickE_spec _ _ h1
      have hke:=pick_sim he h4
      split at h3 <;> try (cases h3; done)
      rename_i hg
      split at h3 <;> try (cases h3; done)
      rename_i v hop
      obtain ⟨env',k1,k2,k3⟩:=setD_spec (u:=v) h3 (noU_or v)
      have hw:wants ops (opSt ops s Es ks (dropH s.H xs)) o true:=guardV_spec (s:=opSt ops s Es ks (dropH s.H xs)) hg hke
      have hd:dOk o s.n=true:=by
        unfold dOk; split
        · rfl
        · rename_i d hd; exact Nat.ble_eq_true_of_le (k2 _ hd)
      have hO:OpV P o (opSt ops s Es ks (dropH s.H xs)) v (dropH s.H xs):=evOp_spec ht hop (opSt ops s Es ks (dropH s.H xs)) hke hD
      obtain ⟨C2,S2⟩:=ch_fltV hC rfl rfl ho' hw hd hO
      obtain ⟨e1,E1,f1,r1,r2,r3,r4,r5,r6⟩:=ih _ (⟨i,0,.pure,ks,v,hp s.H Es Es.length⟩ :: Es) _ k1 hfl' C2 (genv_put (n:=s.n) ho' he k3) ⟨fun _ => ⟨rfl,rfl,S2⟩,hF⟩ (by
        intro j t u hm
        cases hdd:o.dst with
        | none => rw [hdd] at hm; exact hvc _ j t u hm
        | some d =>
          rw [hdd] at hm
          rcases List.mem_cons.1 hm with hm | hm
          · cases hm
            exact ⟨hil,by simp [dstOf,ho',hdd],[],_,Es,rfl,rfl,rfl⟩
          · exact hvc _ j t u hm)
      exact ⟨e1,E1,f1,r1,r2,r3,r4,r5,r6.trans hp_top⟩

def ImpOk (I:Nat→HI) (fl:List Nat) (ops:Array Oper) (fv:FV):Prop:=∀ j t v,(j,t,v) ∈ fv→j ∈ fl∧dstOf ops j=some t∧(I j).v=v

theorem impE_spec {β:Type} {I:Nat→HI} {fl:List Nat} {X:Nat→Prop} {ok:Nat→Bool} {κ:Bt Value→Option β} {b:β} {l:List Nat} (hok : ∀ j,ok j=true→∀ (s1 s' : St) (t:Nat),j ∈ fl→dstOf ops j=some t→TlC P r ops I fl X l ⟨(t,(I j).v) :: s1.g,s1.n,s1.ds,s1.H⟩ s'→TlC P r ops I fl X l s1 s') :
    ∀ (fv:FV) (env:Bt Value) (s1:St),impE ok fv env κ=some b→ImpOk I fl ops fv→SimE env s1.g→∃ env' s2,κ env' = some b∧SimE env' s2.g∧s2.n=s1.n∧s2.ds=s1.ds∧s2.H=s1.H∧∀ s',TlC P r ops I fl X l s2 s'→TlC P r ops I fl X l s1 s':=by
  intro fv
  induction fv with
  | nil => intro env s1 h _ he; exact ⟨env,s1,h,he,rfl,rfl,rfl,fun s' h => h⟩
  | cons q fv ih =>
    obtain ⟨j,t,v⟩:=q
    intro env s1 h hI he
    have hI' : ImpOk I fl ops fv:=fun j t v hm => hI j t v (by simp [hm])
    simp only [impE] at h
    cases hj:ok j with
    | false => rw [hj] at h; exact ih env s1 h hI' he
    | true =>
      rw [hj,cond_true] at h
      split at h
      · rename_i u hu
        have huv:u=v:=by rcases noU_or v with e | e <;> rw [e] at hu <;> cases hu; rfl
        subst huv
        obtain ⟨env1,h1,h2⟩:=Bt.putK_spec _ _ _ _ _ _ h
        obtain ⟨g1,g2,g3⟩:=hI j t u (by simp)
        obtain ⟨env',s2,r1,r2,r3,r4,r5,r6⟩:=ih env1 ⟨(t,(I j).v) :: s1.g,s1.n,s1.ds,s1.H⟩ h2 hI' (fun t' w hw => by
          rw [h1] at hw
          rw [lk_cons]
          by_cases e:t' = t
          · subst e; simp only [if_true] at hw ⊢; rw [g3]; exact Option.some.inj hw
          · simp only [e,if_false] at hw; simp only [Ne.symm e,if_false]; exact he t' w hw)
        exact ⟨env',s2,r1,r2,r3,r4,r5,fun s' hT => hok j hj s1 s' t g1 g2 (r6 s' hT)⟩
      · exact ih env s1 h hI' he

theorem evTl_spec (ht:TOk P tt) {I:Nat→HI} {fl xs ms:List Nat} {fv:FV} {n:Nat} (hms:ckMs ops ms=true) (hI:ImpOk I fl ops fv) : ∀ (l:List Nat) (env:Bt Value) (eh:EH) (env' : Bt Value) (eh' : EH),evTl tt ops.toList ms n xs fv l env eh=some (env',eh')→(∀ i ∈ l,i < ops.size)→
    ∀ s1:St,SimE env s1.g→s1.n=n→SimH eh s1.H→∃ s',TlC P r ops I fl (fun m => m ∈ xs) l s1 s'∧SimE env' s'.g∧s'.n=n∧s'.ds=s1.ds∧Go1 eh eh' s1.H s'.H:=by
  intro l
  induction l with
  | nil =>
    intro env eh env' eh' h _ s1 he hn hH
    simp only [evTl] at h
    obtain ⟨e2,s2,r1,r2,r3,r4,r5,r6⟩:=impE_spec (P:=P) (r:=r) (ops:=ops) (I:=I) (fl:=fl) (X:=fun m => m ∈ xs) (l:=[]) (fun j _ s1 s' t hj hd hT => .impN j t hj hd hT) fv env s1 h hI he
    cases r1
    exact ⟨s2,r6 s2 (.nil s2),r2,r3.trans hn,r4,by rw [r5]; exact .refl hH⟩
  | cons i l ih =>
    intro env eh env' eh' h hlt s1 he hn hH
    simp only [evTl] at h
    have hi:=hlt i (by simp)
    obtain ⟨e2,s2,r1,r2,r3,r4,r5,r6⟩:=impE_spec (P:=P) (r:=r) (ops:=ops) (I:=I) (fl:=fl) (X:=fun m => m ∈ xs) (l:=i :: l) (fun j hj s1 s' t hjf hd hT => .imp j t hjf hd (mask_reach hms i hi j (by rw [← bitN_eq]; exact hj)) hT) fv env s1 h hI he
    have hn2:s2.n=n:=r3.trans hn
    have hH2:SimH eh s2.H:=by rw [r5]; exact hH
    have hlt' : ∀ j ∈ l,j < ops.size:=fun j hj => hlt j (by simp [hj])
    suffices hs : ∃ s',TlC P r ops I fl (fun m => m ∈ xs) (i :: l) s2 s'∧SimE env' s'.g∧s'.n=n∧s'.ds=s2.ds∧Go1 eh eh' s2.H s'.H by
      obtain ⟨s',t1,t2,t3,t4,t5⟩:=hs
      exact ⟨s',r6 s' t1,t2,t3,t4.trans r4,by rw [r5] at t5; exact t5⟩
    subst hn2
    split at r1 <;> try (cases r1; done)
    rename_i o ho
    have ho' : ops[i]? = some o:=by simpa using ho
    have hdst:dstOf ops i=o.dst:=by simp [dstOf,ho']
    split at r1 <;> try (cases r1; done)
    · rename_i hg
      obtain ⟨e3,k1,k2,k3⟩:=setD_spec (u:=undef) r1 (.inl rfl)
      have hw:=guardV_spec (s:=s2) hg r2
      obtain ⟨s',t1,t2,t3,t4,t5⟩:=ih _ _ _ _ k1 hlt' (s2.put o.dst undef s2.H) (k3 s2 s2.H r2) (put_n _ _ _ _) (by rw [put_H]; exact hH2)
      exact ⟨s',.cons (step_skip ho' hw k2) (.refl _ _) (by rw [hdst]; exact t1),t2,t3,t4.trans (put_ds _ _ _ _),by rw [put_H] at t5; exact t5⟩
    · rename_i hg
      have hw:=guardV_spec (s:=s2) hg r2
      split at r1 <;> try (cases r1; done)
      · rename_i v hop
        obtain ⟨e3,k1,k2,k3⟩:=setD_spec (u:=v) r1 (noU_or v)
        have hO:OpV P o s2 v s2.H:=evOp_spec ht hop s2 r2 hH2
        obtain ⟨s',t1,t2,t3,t4,t5⟩:=ih _ _ _ _ k1 hlt' (s2.put o.dst v s2.H) (k3 s2 s2.H r2) (put_n _ _ _ _) (by rw [put_H]; exact hH2)
        exact ⟨s',.cons (step_val ho' hw k2 hO) (.refl _ _) (by rw [hdst]; exact t1),t2,t3,t4.trans (put_ds _ _ _ _),by rw [put_H] at t5; exact t5⟩
      · rename_i v x hop
        obtain ⟨eh1,q1,q2,_⟩:=newB_spec r1
        obtain ⟨e3,k1,k2,k3⟩:=setD_spec (u:=v) q1 (noU_or v)
        obtain ⟨y,hb,hO⟩:=evOp_spec ht hop s2 r2 hH2
        have g:=q2 s2.H y hH2 hb
        obtain ⟨s',t1,t2,t3,t4,t5⟩:=ih _ _ _ _ k1 hlt' (s2.put o.dst v (s2.H.new y)) (k3 s2 _ r2) (put_n _ _ _ _) (by rw [put_H]; exact g.sim)
        exact ⟨s',.cons (step_val ho' hw k2 hO) ((newF _ _).keep.x _) (by rw [hdst]; exact t1),t2,t3,t4.trans (put_ds _ _ _ _),by rw [put_H] at t5; exact g.trans t5⟩
      · rename_i v m x hop
        cases hc : (Nat.blt m eh.next && xs.any (Nat.beq m)) with
        | false => rw [hc] at r1; cases r1
        | true =>
          rw [hc,cond_true] at r1
          rw [Bool.and_eq_true] at hc
          have hmx:m ∈ xs:=by
            obtain ⟨z,hz1,hz2⟩:=List.any_eq_true.1 hc.2
            rw [Nat.eq_of_beq_eq_true hz2]; exact hz1
          obtain ⟨eh1,q1,q2,_⟩:=setB_spec r1
          obtain ⟨e3,k1,k2,k3⟩:=setD_spec (u:=v) q1 (noU_or v)
          obtain ⟨y,hb,hO⟩:=evOp_spec ht hop s2 r2 hH2
          have g:=q2 s2.H y hH2 (Nat.le_of_ble_eq_true hc.1) hb
          obtain ⟨s',t1,t2,t3,t4,t5⟩:=ih _ _ _ _ k1 hlt' (s2.put o.dst v (s2.H.put m (some y))) (k3 s2 _ r2) (put_n _ _ _ _) (by rw [put_H]; exact g.sim)
          exact ⟨s',.cons (step_val ho' hw k2 hO) ((putF _ _ _).x.weak fun z hz => by subst hz; exact hmx) (by rw [hdst]; exact t1),t2,t3,t4.trans (put_ds _ _ _ _),by rw [put_H] at t5; exact g.trans t5⟩

theorem flOk_none {fl xs:List Nat} : ∀ Es:List CE,(Es.map (·.i)).all (fun j => !fl.contains j) = true→FlOk P r ops s fl xs Es:=by
  intro Es
  induction Es with
  | nil => intro _; trivial
  | cons e Es ih =>
    intro h
    simp only [List.map_cons,List.all_cons,Bool.and_eq_true,Bool.not_eq_true'] at h
    exact ⟨fun hc => (by rw [h.1] at hc; cases hc),ih h.2⟩

theorem evRegF_spec (ht:TOk P tt) (hcl:CLok P cl) (hm:P.follows .mixedOrders=true) {id:Nat} {pl:Plan} {x x' : ES} (h:evRegF tt cl ops pl x=some x') (hs:Sim x s) : ∃ s',TC P r (.region id ops true) s .normal s'∧Sim x' s'∧Go1 x.eh x'.eh s.H s'.H:=by
  unfold evRegF at h
  rw [← hs.n] at h
  obtain ⟨env,hs',Es,h1,hC,he,hh⟩:=evDraw_spec (r:=r) ht hcl _ _ _ _ _ [] h .nil hs.env (L:=x.eh.lw) ⟨fun A hA => by rw [List.mem_singleton.1 hA],rfl,fun p A hp' hA => by
    have:p=0:=by simpa using hp'
    subst this
    have:A=x.eh:=by simpa using hA.symm
    subst this; exact hs.eh⟩ rfl rfl
  split at h1 <;> try (cases h1; done)
  rename_i A rest
  split at h1 <;> try (cases h1; done)
  rename_i xs hxs
  obtain ⟨m,h2,hmg⟩:=dropE_spec _ _ h1
  have hD:SimH ⟨x.eh.next,m,x.eh.lw⟩ (dropH s.H xs):=by
    refine ⟨by rw [dropH_next]; exact hs.eh.next,fun k z hz => ?_,fun k z hz => ?_,by unfold SH.B; rw [dropH_old]; exact hs.eh.b⟩
    · rw [hmg] at hz
      by_cases e:k ∈ xs
      · simp [e] at hz
      · simp only [e,if_false] at hz; exact hs.eh.lt k z hz
    · rw [hmg] at hz
      rw [dropH_get]
      by_cases e:k ∈ xs
      · simp [e] at hz
      · simp only [e,if_false] at hz ⊢; exact hs.eh.get k z hz
  have hsim:SimH A (hp s.H Es Es.length):=hh.sim Es.length A (Nat.le_refl _) (by simp)
  have hmap0 : (Es.map CE.sp).map (·.i) = Es.map (·.i):=by rw [List.map_map]; rfl
  -- the floats
  by_cases hfl0 : ((Es.map (·.i)).all fun j => !(fst3 pl.fl).contains j) = true
  · obtain ⟨env2,Es2,fv,h3,hC2,he2,hF2,hv2,hp2⟩:=evFl_spec (r:=r) ht (fl:=fst3 pl.fl) (xs:=xs) hD _ _ _ _ h2 (fun i hi => hi) hC he (flOk_none Es hfl0) (fun j t v hm => (by cases hm))
    have hmap : (Es2.map CE.sp).map (·.i) = Es2.map (·.i):=by rw [List.map_map]; rfl
    rw [hmap,hmap0,hfl0,Bool.true_and] at h3
    cases hc : (ckSetF ops pl.ms (Es2.map (·.i)) (fst3 pl.fl) pl.tl pl.k0 && (ckAllS ops.toList pl.ms (Es2.map (·.i)) (Es2.map CE.sp) && ckFlS ops (fst3 pl.fl) pl.tl (Es2.map CE.sp))) with
    | false => rw [hc] at h3; cases h3
    | true =>
      rw [hc,cond_true] at h3
      rw [Bool.and_eq_true,Bool.and_eq_true] at hc
      obtain ⟨c1,c2,c3⟩:=hc
      have c2':=ckAllS_eq _ _ _ _ c2
      rw [ckFlS_eq] at c3
      obtain ⟨env3,h4,h5⟩:=pickE_spec _ _ h3
      have he3:=pick_sim he2 h5
      split at h4 <;> try (cases h4; done)
      rename_i env4 eh4 htl
      cases h4
      have c1':=c1
      simp only [ckSetF,Bool.and_eq_true] at c1'
      obtain ⟨⟨⟨⟨⟨⟨⟨⟨⟨d1,d2⟩,d3⟩,d4⟩,d5⟩,d6⟩,d7⟩,d8⟩,d9⟩,d10⟩:=c1'
      obtain ⟨_,_,hinfo⟩:=draw_core (tl:=pl.tl) pl.ms hC2 d1 d2 d4 d7 c2'
      have hImp:ImpOk (info ops pl.ms s Es2) (fst3 pl.fl) ops fv:=fun j t v hmm => by
        obtain ⟨g1,g2,pre,e,Fs,g3,g4,g5⟩:=hv2 j t v hmm
        refine ⟨g1,g2,?_⟩
        have:=hinfo g3
        rw [g4] at this
        rw [this]; exact g5
      have hlt : ∀ i ∈ pl.tl,i < ops.size:=fun i hi => Nat.le_of_ble_eq_true (List.all_eq_true.1 d4 i (by simp [hi]))
      obtain ⟨s',t1,t2,t3,t4,t5⟩:=evTl_spec (r:=r) ht d1 hImp _ _ _ _ _ htl hlt ⟨pickG (genv ops s.g Es2) pl.k0,s.n,s.ds,hp s.H Es2 Es2.length⟩ he3 rfl (by rw [hp2]; exact hsim)
      obtain ⟨e,s2,g1,g2⟩:=w_drawF (Q:=fun e s2 => e=.normal∧SimE env4 s2.g∧s2.n=s.n∧s2.ds=s.ds∧Go1 A eh4 (hp s.H Es Es.length) s2.H) (id:=id) hm pl.ms (fst3 pl.fl) xs pl.k0 hC2 hF2 c1 c2' c3 ⟨s',t1,rfl,t2,t3,t4,by rw [hp2] at t5; exact t5⟩
      obtain ⟨rfl,g3,g4,g5,g6⟩:=g2
      have hk:=hC.keep0 (Nat.le_refl Es.length)
      exact ⟨s2,g1,⟨g3,g4,g5.trans hs.ds,g6.sim⟩,g6.sim,(hk.x _).trans g6.keep fun m h => .inl h,(show eh4.lw ≤ x.eh.lw by have:=hh.lw A (by simp); have:=g6.lw; omega)⟩
  · exfalso
    have hf : ((Es.map (·.i)).all fun j => !(fst3 pl.fl).contains j) = false:=by simpa using hfl0
    -- nothing comes out
    have key : ∀ (l:List (Nat × List Nat × List Nat)) (env:Bt Value) (sp:List SP) (fv:FV) (κ:Bt Value→List SP→FV→Option ES) (b:ES),(∀ a b c,κ a b c=none)→evFl tt ops.toList s.n ⟨x.eh.next,m,x.eh.lw⟩ l env sp fv κ=some b→False:=by
      intro l
      induction l with
      | nil => intro env sp fv κ b hκ h; simp only [evFl,hκ] at h; cases h
      | cons q l ih =>
        obtain ⟨i,ks,gs⟩:=q
        intro env sp fv κ b hκ h
        simp only [evFl] at h
        split at h <;> try (cases h; done)
        obtain ⟨ge,h1,_⟩:=pickE_spec _ _ h
        split at h1 <;> try (cases h1; done)
        · obtain ⟨env',k1,_,_⟩:=setD_spec (u:=undef) h1 (.inl rfl)
          exact ih _ _ _ _ _ hκ k1
        · obtain ⟨ke,h3,_⟩:=pickE_spec _ _ h1
          split at h3 <;> try (cases h3; done)
          split at h3 <;> try (cases h3; done)
          rename_i v _
          obtain ⟨env',k1,_,_⟩:=setD_spec (u:=v) h3 (noU_or v)
          exact ih _ _ _ _ _ hκ k1
    refine key _ _ _ _ _ _ (fun a b c => ?_) h2
    rw [hmap0,hf,Bool.false_and,cond_false]

def evRegG (tt:Bt TI) (cl:CL) (ops:Array Oper) (pl:Plan) (x:ES):Option ES:=match pl.fl with
  | [] => evReg tt cl ops pl x
  | _ :: _ => evRegF tt cl ops pl x
theorem evRegG_spec (ht:TOk P tt) (hcl:CLok P cl) (hm:P.follows .mixedOrders=true) {id:Nat} {pl:Plan} {x x' : ES} (h:evRegG tt cl ops pl x=some x') (hs:Sim x s) : ∃ s',TC P r (.region id ops true) s .normal s'∧Sim x' s'∧Go1 x.eh x'.eh s.H s'.H:=by
  unfold evRegG at h
  split at h
  · exact evReg_spec ht hcl hm h hs
  · exact evRegF_spec ht hcl hm h hs
end
end Go.Proofs.Orl

namespace Go.Proofs.Orl
open Go

structure FOk (P:Program) (ft:Bt Func):Prop where
  fn : ∀ f x,ft.get f=some x→P.funcs[f]? = some x
  call : ∀ f x,ft.get f=some x→∀ args w,(callFunc f args).run P w=.ok (.enter f args) w

abbrev IHC:=Option Nat→Nat→Code→ES→Option (Exit × ES)
abbrev IHF:=Nat→List Value→EH→Option (Value × EH)

def inBlkF (id:Nat):Exit→Exit
  | .exit id' => bif Nat.beq id' id then .normal else .exit id'
  | e => e
theorem inBlkF_eq (id:Nat) (e:Exit):inBlkF id e=inBlk id e:=by
  cases e <;> simp only [inBlkF,inBlk]
  rename_i id'
  rw [beq_dec]; by_cases h:id' = id <;> simp [h]

def isReady:LoopState→Bool
  | .ready => true
  | _ => false
def isBusy:LoopState→Bool
  | .busy => true
  | _ => false

def zipE {β:Type} (n:Nat):List Nat→List Value→Bt Value→(Bt Value→Option β)→Option β
  | p :: ps,v :: vs,env,κ => bif Nat.blt p n then Bt.putK 16 env p (noU v) fun env => zipE n ps vs env κ else none
  | [],[],env,κ => κ env
  | _,_,_,_ => none
theorem zipE_spec {β:Type} {n:Nat} {κ:Bt Value→Option β} {b:β} : ∀ (ps:List Nat) (vs:List Value) (env:Bt Value) (g:List (Nat × Value)),zipE n ps vs env κ=some b→SimE env g→
    ps.length=vs.length∧(∀ p ∈ ps,p < n)∧∃ env',κ env' = some b∧SimE env' (zipSet ps vs g):=by
  intro ps
  induction ps with
  | nil =>
    intro vs env g h he
    cases vs with
    | nil => exact ⟨rfl,by simp,env,h,he⟩
    | cons v vs => cases h
  | cons p ps ih =>
    intro vs env g h he
    cases vs with
    | nil => cases h
    | cons v vs =>
      simp only [zipE] at h
      cases hp:Nat.blt p n with
      | false => rw [hp] at h; cases h
      | true =>
        rw [hp,cond_true] at h
        obtain ⟨env1,h1,h2⟩:=Bt.putK_spec _ _ _ _ _ _ h
        have he1:SimE env1 ((p,v) :: g):=fun t w hw => by
          rw [h1] at hw
          rw [lk_cons]
          by_cases e:t=p
          · subst e
            simp only [if_true] at hw ⊢
            rcases noU_or v with h | h <;> rw [h] at hw
            · cases hw
            · exact Option.some.inj hw
          · simp only [e,if_false] at hw
            simp only [Ne.symm e,if_false]
            exact he t w hw
        obtain ⟨g1,g2,env',g3,g4⟩:=ih vs env1 ((p,v) :: g) h2 he1
        exact ⟨by simp [g1],fun q hq => (List.mem_cons.1 hq).elim (fun e => e ▸ Nat.le_of_ble_eq_true hp) (g2 q),env',g3,g4⟩

def evCall (ihC:IHC) (ihF:IHF):CL:=fun fv args eh => match fv with
  | .func (.func f) a b => ihF f (a.toList++(args++b.toList)) eh
  | .func (.yield L) a b => match a.toList with
    | [] => match b.toList with
      | [] => match eh.m.get L with
        | some (.loop _ _ env n ps asg body _ fid) => zipE n ps args env fun env0 => match ihC (some L) fid asg ⟨env0,n,[],eh⟩ with
          | some (.normal,x1) => match x1.eh.m.get L with
            | some (.loop st1 p1 env1 n1 ps1 asg1 body1 d1 fid1) => bif isReady st1 then setB x1.eh L (some (.loop .busy p1 env1 n1 ps1 asg1 body1 d1 fid1)) fun eh1 => match ihC (some L) fid body ⟨x1.env,x1.n,x1.ds,eh1⟩ with
              | some (e2,x2) => match x2.eh.m.get L with
                | some (.loop _ _ env2 n2 ps2 asg2 body2 d2 fid2) => match jumpOf e2 with
                  | some none => setB x2.eh L (some (.loop .ready none env2 n2 ps2 asg2 body2 d2 fid2)) fun eh2 => some (.bool true,eh2)
                  | some (some c) => setB x2.eh L (some (.loop .done (some c) env2 n2 ps2 asg2 body2 d2 fid2)) fun eh2 => some (.bool false,eh2)
                  | none => none
                | _ => none
              | none => none else none
            | _ => none
          | _ => none
        | _ => none
      | _ => none
    | _ => none
  | _ => none

def evRounds (ihC:IHC) (r:Option Nat) (fid:Nat) (c:Code):Nat→ES→Option (Exit × ES)
  | 0,_ => none
  | n + 1,x => match ihC r fid c x with
    | some (.normal,x1) => evRounds ihC r fid c n x1
    | z => z

def evCode (tt:Bt TI) (pl:Bt (Bt Plan)) (ihC:IHC) (ihF:IHF):IHC:=fun r fid c x => match c with
  | .skip => some (.normal,x)
  | .exit id => some (.exit id,x)
  | .ret => some (.ret,x)
  | .label _ => some (.normal,x)
  | .seq a b => match ihC r fid a x with
    | some (.normal,x1) => ihC r fid b x1
    | z => z
  | .cond c a b => match evO x.env c with
    | some (.bool true) => ihC r fid a x
    | some (.bool false) => ihC r fid b x
    | _ => none
  | .block id c => match ihC r fid c x with
    | some (e,x1) => some (inBlkF id e,x1)
    | none => none
  | .loop c => evRounds ihC r fid c 1000000 x
  | .scope c => match ihC r fid c x with
    | some (e,x1) => bif noG e then some (e,x1) else none
    | none => none
  | .region id ops dr => match dr with
    | false => match evIdx tt (evCall ihC ihF) ops.toList (List.range ops.toList.length) x with
      | some x1 => some (.normal,x1)
      | none => none
    | true => match pl.get fid with
      | some pf => match pf.get id with
        | some p => match evRegG tt (evCall ihC ihF) ops p x with
          | some x1 => some (.normal,x1)
          | none => none
        | none => none
      | none => none
  | .rangeFunc g ps asg body => match r with
    | some _ => none
    | none => match evO x.env g with
      | some (.func (.func f) a b) => newB x.eh (.dfr true) fun e1 => newB e1 (.loop .ready none x.env x.n ps.toList asg body x.eh.next fid) fun e2 =>
        match ihF f (a.toList++(.func (.yield e1.next) #[] #[] :: b.toList)) e2 with
        | some (_,e3) => match e3.m.get e1.next with
          | some (.loop st p _ _ _ _ _ _ _) => bif isBusy st then none else match jumpExit p with
            | some e => setB e3 e1.next none fun e4 => some (e,⟨x.env,x.n,x.eh.next :: x.ds,e4⟩)
            | none => none
          | _ => none
        | none => none
      | _ => none
  | _ => none

def entE {β:Type} : Nat→List Value→Bt Value→(Bt Value→Option β)→Option β
  | _,[],env,κ => κ env
  | k,v :: l,env,κ => Bt.putK 16 env k (noU v) fun env => entE (Nat.succ k) l env κ
def evMarks {β:Type} : List Nat→EH→(EH→Option β)→Option β
  | [],eh,κ => κ eh
  | d :: ds,eh,κ => match eh.m.get d with
    | some (.dfr true) => setB eh d (some (.dfr false)) fun eh => evMarks ds eh κ
    | _ => none
def evRes (tt:Bt TI) (env:Bt Value) (eh:EH):List ResultVar→Option (List Value)
  | [] => some []
  | .tmp t :: l => match env.get t with
    | some v => bif isU v then none else match evRes tt env eh l with
      | some vs => some (v :: vs)
      | none => none
    | none => none
  | .cell a t :: l => match evLoad tt env eh t (.tmp a) with
    | some (v,_) => match evRes tt env eh l with
      | some vs => some (v :: vs)
      | none => none
    | none => none
def isEnd:Exit→Bool
  | .normal => true
  | .ret => true
  | _ => false

abbrev OC:=Nat→List Value→EH→Option Value
def OrcOk (P:Program) (orc:OC):Prop:=∀ f args eh v,orc f args eh=some v→∀ H,SimH eh H→T P f args.toArray H (.returned v) H
def evFunc0 (tt:Bt TI) (ft:Bt Func) (ihC:IHC):IHF:=fun f args eh => match ft.get f with
  | some fn => match fn.body with
    | some c => entE 0 args .nil fun env => match ihC none f c ⟨env,Nat.add args.length (Nat.sub fn.ntmps args.length),[],⟨eh.next,eh.m,eh.next⟩⟩ with
      | some (e,x1) => bif isEnd e then evMarks x1.ds x1.eh fun eh2 => match evRes tt x1.env eh2 fn.results.toList with
          | some vs => match resOf vs with
            | v => bif rigid 6 v && Nat.ble eh.next eh2.lw then some (v,⟨eh2.next,eh.m,eh.lw⟩) else minN eh.lw eh2.lw fun lw => some (v,⟨eh2.next,eh2.m,lw⟩)
          | none => none else none
      | none => none
    | none => none
  | none => none

def evFunc (orc:OC) (tt:Bt TI) (ft:Bt Func) (ihC:IHC):IHF:=fun f args eh => match ft.get f with
  | some _ => match orc f args eh with
    | some v => some (v,eh)
    | none => evFunc0 tt ft ihC f args eh
  | none => none

def evAll (orc:OC) (tt:Bt TI) (ft:Bt Func) (pl:Bt (Bt Plan)):Nat→IHC × IHF
  | 0 => (fun _ _ _ _ => none,fun _ _ _ => none)
  | n + 1 => (fun r f c x => evCode tt pl (evAll orc tt ft pl n).1 (evAll orc tt ft pl n).2 r f c x,fun f args eh => evFunc orc tt ft (evAll orc tt ft pl n).1 f args eh)

section
variable {P:Program} {tt:Bt TI} {ft:Bt Func} {pl:Bt (Bt Plan)} {ihC:IHC} {ihF:IHF} {r:Option Nat}

def IHCok (P:Program) (ihC:IHC):Prop:=∀ r f c x e x',ihC r f c x=some (e,x')→∀ s,Sim x s→∃ s',TC P r c s e s'∧Sim x' s'∧Go1 x.eh x'.eh s.H s'.H
def IHFok (P:Program) (ihF:IHF):Prop:=∀ f args eh v eh',ihF f args eh=some (v,eh')→(∀ args w,(callFunc f args).run P w=.ok (.enter f args) w)∧∀ H,SimH eh H→∃ H',T P f args.toArray H (.returned v) H'∧Go1 eh eh' H H'

theorem evCall_spec (hC:IHCok P ihC) (hF:IHFok P ihF):CLok P (evCall ihC ihF):=fun fv args eh v eh' h H hH => by
  unfold evCall at h
  split at h <;> try (cases h; done)
  · rename_i f a b
    obtain ⟨h1,h2⟩:=hF _ _ _ _ _ h
    obtain ⟨H',t,g⟩:=h2 H hH
    refine ⟨H',?_,g⟩
    have:=CallV.func (P:=P) (first:=a.toList) (cap:=b.toList) (args:=args) h1 (by rw [List.append_assoc]; exact t)
    simpa using this
  · rename_i L a b
    split at h <;> try (cases h; done)
    rename_i ha
    split at h <;> try (cases h; done)
    rename_i hb
    obtain rfl:a=#[]:=Array.toList_inj.1 ha
    obtain rfl:b=#[]:=Array.toList_inj.1 hb
    split at h <;> try (cases h; done)
    rename_i st p env n ps asg body d fid hL
    obtain ⟨y,hy,hb⟩:=hH.get _ _ hL
    cases hb with
    | loop _ _ rec _ hps he =>
    obtain ⟨hlen,hpn,env0,h1,he0⟩:=zipE_spec _ _ _ _ h he
    split at h1 <;> try (cases h1; done)
    rename_i x1 hasg
    obtain ⟨s1,t1,m1,g1⟩:=hC _ _ _ _ _ _ hasg ⟨zipSet ps args rec.g,rec.n,[],H⟩ ⟨he0,rfl,rfl,hH⟩
    split at h1 <;> try (cases h1; done)
    rename_i st1 p1 env1 n1 ps1 asg1 body1 d1 fid1 hL1
    obtain ⟨y1,hy1,hb1⟩:=m1.eh.get _ _ hL1
    cases hb1 with
    | loop _ _ rec1 _ hps1 he1 =>
    cases hr:isReady rec1.state with
    | false => rw [hr] at h1; cases h1
    | true =>
    rw [hr,cond_true] at h1
    obtain ⟨eh1,h2,g2,_⟩:=setB_spec h1
    have hlt1:L < x1.eh.next:=m1.eh.lt _ _ hL1
    have gb:=g2 s1.H (.loop { rec1 with state:=.busy }) m1.eh hlt1 (.loop env1 fid1 { rec1 with state:=.busy } ps1 hps1 he1)
    split at h2 <;> try (cases h2; done)
    rename_i e2 x2 hbody
    obtain ⟨s2,t2,m2,g3⟩:=hC _ _ _ _ _ _ hbody { s1 with H:=s1.H.put L (some (.loop { rec1 with state:=.busy })) } ⟨m1.env,m1.n,m1.ds,gb.sim⟩
    split at h2 <;> try (cases h2; done)
    rename_i st2 p2 env2 n2 ps2 asg2 body2 d2 fid2 hL2
    obtain ⟨y2,hy2,hb2⟩:=m2.eh.get _ _ hL2
    cases hb2 with
    | loop _ _ rec2 _ hps2 he2 =>
    have hlt2:L < x2.eh.next:=m2.eh.lt _ _ hL2
    have hrd:rec1.state=.ready:=by revert hr; cases rec1.state <;> simp [isReady]
    have hps' : ∀ q ∈ rec.params,q < rec.n:=fun q hq => hpn q (by rw [hps] at hq; simpa using hq)
    have hz:rec.params.toList=ps:=by rw [hps]
    have hsz:args.length=rec.params.size:=by rw [hps]; simp [hlen]
    split at h2 <;> try (cases h2; done)
    · rename_i hj
      obtain ⟨eh2,h3,g4,_⟩:=setB_spec h2
      cases h3
      have gr:=g4 s2.H (.loop { rec2 with state:=.ready,pending:=none }) m2.eh hlt2 (.loop env2 fid2 { rec2 with state:=.ready,pending:=none } ps2 hps2 he2)
      refine ⟨_,.yield (.mk (rec:=rec) (rec1:=rec1) (rec2:=rec2) (s1:=s1) (s2:=s2) (e:=e2) (jump:=none) hy hsz hps' (by rw [hz]; exact t1) hy1 hrd t2 hj hy2),?_⟩
      exact ((g1.trans gb).trans g3).trans gr
    · rename_i c hj
      obtain ⟨eh2,h3,g4,_⟩:=setB_spec h2
      cases h3
      have gr:=g4 s2.H (.loop { rec2 with state:=.done,pending:=some c }) m2.eh hlt2 (.loop env2 fid2 { rec2 with state:=.done,pending:=some c } ps2 hps2 he2)
      refine ⟨_,.yield (.mk (rec:=rec) (rec1:=rec1) (rec2:=rec2) (s1:=s1) (s2:=s2) (e:=e2) (jump:=some c) hy hsz hps' (by rw [hz]; exact t1) hy1 hrd t2 hj hy2),?_⟩
      exact ((g1.trans gb).trans g3).trans gr

theorem evRounds_spec (hC:IHCok P ihC) {fid:Nat} {c:Code} : ∀ (n:Nat) (x:ES) (e:Exit) (x' : ES),evRounds ihC r fid c n x=some (e,x')→∀ s,Sim x s→∃ s',Rounds P r c s e s'∧Sim x' s'∧Go1 x.eh x'.eh s.H s'.H:=by
  intro n
  induction n with
  | zero => intro x e x' h; cases h
  | succ n ih =>
    intro x e x' h s hs
    simp only [evRounds] at h
    split at h
    · rename_i x1 h1
      obtain ⟨s1,t1,m1,g1⟩:=hC _ _ _ _ _ _ h1 s hs
      obtain ⟨s2,t2,m2,g2⟩:=ih _ _ _ h s1 m1
      exact ⟨s2,.more t1 t2,m2,g1.trans g2⟩
    · rename_i hne
      obtain ⟨s1,t1,m1,g1⟩:=hC _ _ _ _ _ _ h s hs
      exact ⟨s1,.last t1 (fun he => by subst he; exact hne _ h),m1,g1⟩

theorem evCode_spec (ht:TOk P tt) (hm:P.follows .mixedOrders=true) (hC:IHCok P ihC) (hF:IHFok P ihF):IHCok P (evCode tt pl ihC ihF):=fun r f c x e x' h s hs => by
  have hcl:=evCall_spec hC hF
  unfold evCode at h
  split at h <;> try (cases h; done)
  · cases h; exact ⟨s,tc_skip,hs,.refl hs.eh⟩
  · cases h; exact ⟨s,tc_exit _,hs,.refl hs.eh⟩
  · cases h; exact ⟨s,tc_ret,hs,.refl hs.eh⟩
  · cases h; exact ⟨s,tc_label _,hs,.refl hs.eh⟩
  · rename_i a b
    split at h
    · rename_i x1 h1
      obtain ⟨s1,t1,m1,g1⟩:=hC _ _ _ _ _ _ h1 s hs
      obtain ⟨s2,t2,m2,g2⟩:=hC _ _ _ _ _ _ h s1 m1
      exact ⟨s2,tc_seq t1 t2,m2,g1.trans g2⟩
    · rename_i hne
      obtain ⟨s1,t1,m1,g1⟩:=hC _ _ _ _ _ _ h s hs
      exact ⟨s1,tc_seq_out t1 (fun he => by subst he; exact hne _ h),m1,g1⟩
  · rename_i c a b
    split at h <;> try (cases h; done)
    all_goals
      rename_i hc
      have hx:=evO_spec hs.env hc
      obtain ⟨s1,t1,m1,g1⟩:=hC _ _ _ _ _ _ h s hs
      exact ⟨s1,tc_cond hx.2 hx.1 t1,m1,g1⟩
  · rename_i id c
    split at h <;> try (cases h; done)
    rename_i e1 x1 h1
    cases h
    obtain ⟨s1,t1,m1,g1⟩:=hC _ _ _ _ _ _ h1 s hs
    exact ⟨s1,by rw [inBlkF_eq]; exact tc_block t1,m1,g1⟩
  · rename_i c
    obtain ⟨s1,t1,m1,g1⟩:=evRounds_spec hC _ _ _ _ h s hs
    exact ⟨s1,tc_loop t1,m1,g1⟩
  · rename_i c
    split at h <;> try (cases h; done)
    rename_i e1 x1 h1
    cases hng:noG e1 with
    | false => rw [hng] at h; cases h
    | true =>
      rw [hng,cond_true] at h; cases h
      obtain ⟨s1,t1,m1,g1⟩:=hC _ _ _ _ _ _ h1 s hs
      exact ⟨s1,tc_scope t1 hng,m1,g1⟩
  · rename_i id ops dr
    split at h
    · split at h <;> try (cases h; done)
      rename_i x1 h1
      cases h
      obtain ⟨s1,t1,m1,g1⟩:=evIdx_spec (r:=r) ht hcl _ _ _ h1 s hs
      exact ⟨s1,tc_region (by simpa using t1),m1,g1⟩
    · split at h <;> try (cases h; done)
      split at h <;> try (cases h; done)
      split at h <;> try (cases h; done)
      rename_i x1 h1
      cases h
      obtain ⟨s1,t1,m1,g1⟩:=evRegG_spec (r:=r) ht hcl hm h1 hs
      exact ⟨s1,t1,m1,g1⟩
  · rename_i g ps asg body
    split at h <;> try (cases h; done)
    split at h <;> try (cases h; done)
    rename_i f' a b hg
    have hx:=evO_spec hs.env hg
    obtain ⟨e1,h1,g1,n1,l1,q1⟩:=newB_spec h
    have k1:=g1 s.H _ hs.eh .dfr1
    obtain ⟨e2,h2,g2,n2,l2,q2⟩:=newB_spec h1
    have k2:=g2 _ (.loop (loopRec s ps asg body s.H.next)) k1.sim (by
      have:=BS.loop x.env f (loopRec s ps asg body s.H.next) ps.toList (by simp [loopRec]) hs.env
      simpa [loopRec,hs.n,hs.eh.next] using this)
    split at h2 <;> try (cases h2; done)
    rename_i v e3 h3
    obtain ⟨hcall,hT⟩:=hF _ _ _ _ _ h3
    obtain ⟨H3,t3,k3⟩:=hT _ k2.sim
    split at h2 <;> try (cases h2; done)
    rename_i st p env3 n3 ps3 asg3 body3 d3 fid3 hL
    obtain ⟨y,hy,hb⟩:=k3.sim.get _ _ hL
    cases hb with
    | loop _ _ rec2 _ hps he3 =>
    cases hbz:isBusy rec2.state with
    | true => rw [hbz] at h2; cases h2
    | false =>
    rw [hbz,cond_false] at h2
    split at h2 <;> try (cases h2; done)
    rename_i ex hj
    obtain ⟨e4,h4,g4,n4,q4⟩:=setB_none h2
    cases h4
    have k4:=g4 _ k3.sim
    have hn:e1.next=s.H.next + 1:=by rw [n1,hs.eh.next]
    rw [hn] at t3 hy k4
    refine ⟨_,tc_rangeFunc hx.1 (by simpa using hx.2) hcall (first:=a.toList) (cap:=b.toList) (v:=v) (H2:=H3) (rec2:=rec2) (by simpa using t3) hy (by rintro he; rw [he] at hbz; cases hbz) hj,⟨hs.env,hs.n,?_,k4.sim⟩,((k1.trans k2).trans k3).trans k4⟩
    simp [hs.ds,hs.eh.next]

theorem entE_spec {β:Type} {κ:Bt Value→Option β} {b:β} : ∀ (l:List Value) (k:Nat) (env:Bt Value) (g:List (Nat × Value)),entE k l env κ=some b→(∀ t v,env.get t=some v→t < k∧lk g t=v)→
    ∃ env',κ env' = some b∧∀ t v,env'.get t=some v→(t < k∧lk g t=v)∨lk (argsL k l) t=v∧k ≤ t:=by
  intro l
  induction l with
  | nil => intro k env g h he; exact ⟨env,h,fun t v hv => .inl (he t v hv)⟩
  | cons u l ih =>
    intro k env g h he
    simp only [entE] at h
    obtain ⟨env1,h1,h2⟩:=Bt.putK_spec _ _ _ _ _ _ h
    obtain ⟨env',h3,h4⟩:=ih (k + 1) env1 ((k,u) :: g) h2 (fun t v hv => by
      rw [h1] at hv
      rw [lk_cons]
      by_cases e:t=k
      · subst e
        simp only [if_true] at hv ⊢
        rcases noU_or u with h | h <;> rw [h] at hv
        · cases hv
        · exact ⟨Nat.lt_succ_self _,Option.some.inj hv⟩
      · simp only [e,if_false] at hv
        simp only [Ne.symm e,if_false]
        exact ⟨Nat.lt_succ_of_lt (he t v hv).1,(he t v hv).2⟩)
    refine ⟨env',h3,fun t v hv => ?_⟩
    rw [argsL,lk_cons]
    rcases h4 t v hv with ⟨g1,g2⟩ | ⟨g1,g2⟩
    · rw [lk_cons] at g2
      by_cases e:k=t
      · simp only [e,if_true] at g2 ⊢; exact .inr ⟨g2,Nat.le_refl _⟩
      · simp only [e,if_false] at g2; exact .inl ⟨by omega,g2⟩
    · simp only [show ¬ k=t by omega,if_false]; exact .inr ⟨g1,by omega⟩

theorem evMarks_spec {β:Type} {κ:EH→Option β} {b:β} : ∀ (ds:List Nat) (eh:EH),evMarks ds eh κ=some b→∃ eh',κ eh' = some b∧∀ H,SimH eh H→∃ H',Marks H (ds.map mark) H'∧Go1 eh eh' H H':=by
  intro ds
  induction ds with
  | nil => intro eh h; exact ⟨eh,h,fun H hH => ⟨H,.nil,.refl hH⟩⟩
  | cons d ds ih =>
    intro eh h
    simp only [evMarks] at h
    split at h <;> try (cases h; done)
    rename_i hd
    obtain ⟨e1,h1,g1,_⟩:=setB_spec h
    obtain ⟨eh',h2,g2⟩:=ih e1 h1
    refine ⟨eh',h2,fun H hH => ?_⟩
    obtain ⟨y,hy,hb⟩:=hH.get _ _ hd
    cases hb
    have k1:=g1 H (.obj (.deferred none)) hH (hH.lt _ _ hd) .dfr0
    obtain ⟨H',m,k2⟩:=g2 _ k1.sim
    exact ⟨H',.cons hy m,k1.trans k2⟩

theorem evRes_spec (ht:TOk P tt) {env:Bt Value} {eh:EH} {s:St} (he:SimE env s.g) (hH:SimH eh s.H) : ∀ (l:List ResultVar) (vs:List Value),evRes tt env eh l=some vs→ResL P s l vs:=by
  intro l
  induction l with
  | nil => intro vs h; cases h; exact .nil
  | cons x l ih =>
    intro vs h
    cases x with
    | tmp t =>
      simp only [evRes] at h
      split at h <;> try (cases h; done)
      rename_i v hv
      cases hu:isU v with
      | true => rw [hu] at h; cases h
      | false =>
        rw [hu,cond_false] at h
        split at h <;> try (cases h; done)
        rename_i us hl
        cases h
        exact .cons (resV_tmp (he t v hv) (isU_ne hu)) (ih _ hl)
    | cell a t =>
      simp only [evRes] at h
      split at h <;> try (cases h; done)
      rename_i v _ hv
      split at h <;> try (cases h; done)
      rename_i us hl
      cases h
      refine .cons ?_ (ih _ hl)
      unfold evLoad at hv
      split at hv <;> try (cases hv; done)
      rename_i n k h1
      split at hv <;> try (cases hv; done)
      rename_i c h2
      split at hv <;> try (cases hv; done)
      rename_i i h3
      cases hc : (Nat.ble (Nat.add k i.sz) c.length && (i.ag || Nat.beq i.sz 1)) with
      | false => rw [hc] at hv; cases hv
      | true =>
        rw [hc] at hv
        simp only [cond_true] at hv
        split at hv <;> try (cases hv; done)
        rename_i u h4
        cases hv
        simp only [Bool.and_eq_true,Bool.or_eq_true,Nat.ble_eq,Nat.beq_eq] at hc
        obtain ⟨tg,hg⟩:=gRow_spec hH h2
        have hp:=gP_spec he h1
        have:=resV_cell (P:=P) (s:=s) hp.2 (ht t i h3).ag (ht t i h3).sz hg (by simpa using hc.1) hc.2
        rw [ldB_spec h4] at this
        exact this

theorem evFunc0_spec (ht:TOk P tt) (hf:FOk P ft) (hC:IHCok P ihC):IHFok P (evFunc0 tt ft ihC):=fun f args eh v eh' h => by
  unfold evFunc0 at h
  split at h <;> try (cases h; done)
  rename_i fn hfn
  refine ⟨hf.call f fn hfn,fun H hH => ?_⟩
  split at h <;> try (cases h; done)
  rename_i c hc
  obtain ⟨env,h1,he⟩:=entE_spec args 0 .nil [] h (fun t v hv => by cases hv)
  split at h1 <;> try (cases h1; done)
  rename_i e x1 hb
  have hsim0:Sim ⟨env,Nat.add args.length (Nat.sub fn.ntmps args.length),[],⟨eh.next,eh.m,eh.next⟩⟩ (enterSt fn args H) :=
    ⟨fun t v hv => (he t v hv).elim (fun h => absurd h.1 (Nat.not_lt_zero _)) fun h => h.1,rfl,rfl,⟨hH.next,hH.lt,hH.get,hH.b⟩⟩
  obtain ⟨s1,t1,m1,g1⟩:=hC _ _ _ _ _ _ hb _ hsim0
  cases hen:isEnd e with
  | false => rw [hen] at h1; cases h1
  | true =>
    rw [hen,cond_true] at h1
    obtain ⟨eh2,h2,hmk⟩:=evMarks_spec _ _ h1
    obtain ⟨H2,mk,g2⟩:=hmk s1.H m1.eh
    split at h2 <;> try (cases h2; done)
    rename_i vs hvs
    have hres:ResL P { s1 with H:=H2 } fn.results.toList vs:=evRes_spec ht (s:={ s1 with H:=H2 }) m1.env g2.sim _ _ hvs
    have he' : e=.normal∨e=.ret:=by revert hen; cases e <;> simp [isEnd]
    have hT:=t_of_body_marks (hf.fn f fn hfn) hc t1 he' (by rw [m1.ds]; exact mk) hres
    have gg:Go1 ⟨eh.next,eh.m,eh.next⟩ eh2 H H2:=g1.trans g2
    cases hg : (rigid 6 (resOf vs) && Nat.ble eh.next eh2.lw) with
    | true =>
      simp only [hg,cond_true] at h2
      cases h2
      rw [Bool.and_eq_true] at hg
      have hlw:=Nat.le_of_ble_eq_true hg.2
      have hk:Keep H H2:=gg.keep.k fun m hm => by rw [hH.next]; exact Nat.le_trans hlw hm
      refine ⟨H2,hT,⟨gg.sim.next,fun n x hx => ?_,fun n x hx => ?_,gg.sim.b⟩,hk.x _,Nat.le_refl _⟩
      · have:=hH.lt n x hx; have:=hk.next; rw [hH.next,gg.sim.next] at this; exact Nat.lt_of_lt_of_le (hH.lt n x hx) this
      · obtain ⟨y,hy,hb⟩:=hH.get n x hx
        exact ⟨y,by rw [hk.get n (by rw [hH.next]; exact hH.lt n x hx)]; exact hy,hb⟩
    | false =>
      simp only [hg,cond_false,minN_eq] at h2
      cases h2
      exact ⟨H2,hT,⟨gg.sim.next,gg.sim.lt,gg.sim.get,gg.sim.b⟩,gg.keep.weak fun m hm => Nat.le_trans (Nat.min_le_right _ _) hm,Nat.min_le_left _ _⟩

theorem evFunc_spec {orc:OC} (ho:OrcOk P orc) (ht:TOk P tt) (hf:FOk P ft) (hC:IHCok P ihC):IHFok P (evFunc orc tt ft ihC):=fun f args eh v eh' h => by
  unfold evFunc at h
  split at h <;> try (cases h; done)
  rename_i fn hfn
  split at h
  · rename_i u hu
    cases h
    exact ⟨hf.call f fn hfn,fun H hH => ⟨H,ho _ _ _ _ hu H hH,.refl hH⟩⟩
  · exact evFunc0_spec ht hf hC _ _ _ _ _ h

theorem evAll_spec {orc:OC} (ho:OrcOk P orc) (ht:TOk P tt) (hf:FOk P ft) (hm:P.follows .mixedOrders=true) : ∀ n,IHCok P (evAll orc tt ft pl n).1∧IHFok P (evAll orc tt ft pl n).2:=by
  intro n
  induction n with
  | zero => exact ⟨(fun _ _ _ _ _ _ h => by cases h),(fun _ _ _ _ _ h => by cases h)⟩
  | succ n ih => exact ⟨evCode_spec ht hm ih.1 ih.2,evFunc_spec ho ht hf ih.1⟩

theorem ev_run {orc:OC} (ho:OrcOk P orc) (ht:TOk P tt) (hf:FOk P ft) (hm:P.follows .mixedOrders=true) {n f:Nat} {v:Value} {args:List Value} {eh eh' : EH} (h : (evAll orc tt ft pl n).2 f args eh=some (v,eh')) {H:SH} (hH:SimH eh H) :
    ∃ H',T P f args.toArray H (.returned v) H'∧Go1 eh eh' H H':=((evAll_spec ho ht hf hm n).2 f args eh v eh' h).2 H hH
end
end Go.Proofs.Orl

namespace Go.Proofs.Orl
open Go
def BtAll {α:Type} (p:Nat→α→Prop) : (Nat→Nat)→Bt α→Prop
  | _,.nil => True
  | κ,.node v l r => (match v with | some x => p (κ 0) x | none => True)∧BtAll p (fun n => κ (2 * n + 1)) l∧BtAll p (fun n => κ (2 * n + 2)) r
theorem btAll_get {α:Type} {p:Nat→α→Prop} : ∀ (t:Bt α) (κ:Nat→Nat),BtAll p κ t→∀ n x,t.get n=some x→p (κ n) x:=by
  intro t
  induction t with
  | nil => intro κ _ n x h; cases h
  | node v l r ihl ihr =>
    intro κ h n x hx
    obtain ⟨h1,h2,h3⟩:=h
    rw [Bt.get_node] at hx
    by_cases h0:n=0
    · subst h0; simp only [if_true] at hx; subst hx; exact h1
    · by_cases ho:n % 2=1
      · simp only [h0,ho,if_false,if_true] at hx
        have:=ihl _ h2 _ _ hx
        rwa [show 2 * (n / 2) + 1=n by omega] at this
      · simp only [h0,ho,if_false] at hx
        have:=ihr _ h3 _ _ hx
        rwa [show 2 * (n / 2 - 1) + 2=n by omega] at this
theorem btAll {α:Type} {p:Nat→α→Prop} (t:Bt α) (h:BtAll p id t) : ∀ n x,t.get n=some x→p n x:=btAll_get t id h
end Go.Proofs.Orl

namespace Go.Proofs.Orl
open Go

theorem rigid_rv {B:Nat} {N:Nat→Prop} {σ:Nat→Nat} {n:Nat} {v:Value} (h:rigid n v=true):RV B N σ v v:=by
  have hv:VR B (fun _ => False) (fun _ => ⟨0,0,0⟩) v v:=rigid.vr n v h
  -- as for old values
  clear h
  generalize hu:v=u at hv
  have key : ∀ {v u:Value},VR B (fun _ => False) (fun _ => (⟨0,0,0⟩ : Pl)) v u→RV B N σ v v:=fun h => by
    induction h with
    | bool b => exact .bool b
    | int k n => exact .int k n
    | string s => exact .string s
    | nilPtr => exact .nilPtr
    | oldPtr a h1 => exact .oldPtr a h1
    | ptr n k h1 h2 => exact h2.elim
    | nilSlice l c => exact .nilSlice l c
    | oldSlice a l c h1 => exact .oldSlice a l c h1
    | slice n k l c r h1 h2 h3 h4 h5 => exact h2.elim
    | empty a b c h1 => exact .oldSlice a 0 c (Nat.lt_of_not_le fun h => h1 h)
    | nilMap => exact .nilMap
    | map n h1 h2 => exact h2.elim
    | func f f' x x' c c' hf hx _ hc _ ih1 ih2 =>
      refine .func f f x x c c ?_ rfl ih1 rfl ih2
      cases hf with
      | func f => exact .func f
      | via t p f b => exact .via t p f b
      | yield l h1 h2 => exact h2.elim
    | nilFunc => exact .nilFunc
    | iface t v v' _ ih => exact .iface t v v ih
    | nilIface => exact .nilIface
    | agg x x' hx _ ih => exact .agg x x rfl ih
    | tuple x x' hx _ ih => exact .tuple x x rfl ih
  exact key (u:=u) (hu ▸ hv)

theorem rigid_move {B B' : Nat} {N N' : Nat→Prop} {φ φ' : Ph} {n:Nat} {v u:Value} (h:rigid n v=true) (r:VR B N φ v u):VR B' N' φ' v u:=by
  rw [rigid_eq n v u h r]; exact rigid.vr n v h

theorem T.ro {P:Program} {f:FuncId} {args args2:Array Value} {v:Value} {A A' H:SH} {σ:Nat→Nat} {d:Nat} (h:T P f args A (.returned v) A') (hk:Keep A A') (hv:rigid d v=true) (hA:A.B=0) (hH : ∀ n,A.live n→H.B ≤ σ n)
    (hrow : ∀ n x,A.get n=some x→∃ c t t',x=.row c t∧H.get (σ n) = some (.row c t')∧∀ i,i < c.size→rigid d (c.getD i undef) = true)
    (hdom : ∀ n,(A.get n).isSome→A.live n) (hlt : ∀ n,A.live n→n < A.next) (hinj : ∀ n m,(A.get n).isSome→(A.get m).isSome→σ n=σ m→n=m) (har:RA A.B A.live σ args args2):T P f args2 H (.returned v) H:=by
  intro φ w args' hr har'
  have hs : ∀ n x,A.get n=some x→(H.get (σ n)).isSome:=fun n x hx => by
    obtain ⟨c,t,t',_,h2,_⟩:=hrow n x hx
    simp [h2]
  have hpull : ∀ n,A.B ≤ n→A.live n→H.B ≤ σ n∧(fun n => φ (σ n)) n=φ (σ n):=fun n _ hn => ⟨hH n hn,rfl⟩
  have hrA:Rel (fun n => φ (σ n)) A w:=by
    refine ⟨fun b hb => by omega,by omega,by omega,fun n hn => ⟨by omega,hdom n hn⟩,hlt,fun n x hx => ?_,fun n m hn hm e => ?_⟩
    · obtain ⟨c,t,t',rfl,h2,h3⟩:=hrow n x hx
      obtain ⟨_,y,hy,hbr⟩:=hr.own _ _ h2
      refine ⟨by omega,y,hy,?_⟩
      cases hbr with
      | row _ c2 _ t2 k1 k2 k3 => exact .row _ _ _ _ k1 k2 fun i hi => rigid_move (h3 i hi) (k3 i hi)
    · obtain ⟨x,hx⟩:=Option.isSome_iff_exists.1 hn
      obtain ⟨y,hy⟩:=Option.isSome_iff_exists.1 hm
      exact hinj n m hn hm (hr.inj _ _ (hs n x hx) (hs m y hy) e)
  have harA:AR A.B A.live (fun n => φ (σ n)) args args':=⟨har.1.trans har'.1,fun i hi => (har.2 i hi).pull (by omega) hpull (har'.2 i (har.1 ▸ hi))⟩
  refine (h _ w args' hrA harA).mono fun e2 w2 ho => ?_
  obtain ⟨φ2,he2,hr2,hx2⟩:=ho
  refine ⟨φ,?_,⟨fun b hb => ?_,hr.base,Nat.le_trans hr.size hx2.size,hr.dom,hr.lt,fun m x hm => ?_,hr.inj⟩,⟨fun _ _ => rfl,Nat.le_refl _,fun _ h => h,rfl,hx2.size,fun b hb hn2 => ?_,fun n hn => .inr ⟨n,hn,rfl⟩,hx2.out,hx2.os⟩⟩
  · cases he2 with | returned _ u g => exact .returned _ _ (rigid_move hv g)
  · rw [hx2.keep b (Nat.lt_of_lt_of_le hb hr.size) fun n hn e => ?_]
    · exact hr.old b hb
    · obtain ⟨z,hz⟩:=Option.isSome_iff_exists.1 hn
      obtain ⟨c,t,t',_,h2,_⟩:=hrow n z hz
      have:=(hr.own _ _ h2).1
      have e' : (φ (σ n)).b=b:=e
      omega
  · obtain ⟨g1,y,hy,hbr⟩:=hr.own m x hm
    refine ⟨g1,?_⟩
    by_cases hi : ∃ n,(A.get n).isSome∧(φ (σ n)).b=(φ m).b
    · obtain ⟨n,hn,e⟩:=hi
      obtain ⟨z,hz⟩:=Option.isSome_iff_exists.1 hn
      have hnm:=hr.inj _ _ (hs n z hz) (by simp [hm]) e
      subst hnm
      obtain ⟨c,t,t',rfl,h2,h3⟩:=hrow n z hz
      rw [hm] at h2
      cases h2
      have hlive:=hdom n hn
      have hA' : A'.get n=some (.row c t):=(hk.get n (hlt n hlive)).trans hz
      obtain ⟨_,y2,hy2,hbr2⟩:=hr2.own n _ hA'
      rw [hx2.same n hlive] at hy2 hbr2
      refine ⟨y2,hy2,?_⟩
      cases hbr2 with
      | row _ c2 _ t2 k1 k2 k3 => exact .row _ _ _ _ k1 k2 fun i hi => rigid_move (h3 i hi) (k3 i hi)
    · refine ⟨y,?_,hbr⟩
      rw [hx2.keep _ (Array.getElem?_eq_some_iff.1 hy).1 fun n hn e => hi ⟨n,hn,e⟩]; exact hy
  · refine hx2.keep b hb fun n hn e => ?_
    obtain ⟨z,hz⟩:=Option.isSome_iff_exists.1 hn
    exact hn2 (σ n) (hs n z hz) e

structure OE where
  f:Nat
  args:List Value
  k:Nat
  rows:List (Option (List Value))
  v:Value

abbrev NS:=List (Nat × Nat)
def lkN:NS→Nat→Option Nat
  | [],_ => none
  | (i,n) :: l,j => bif Nat.beq i j then some n else lkN l j
def bindN (k i n:Nat) (ns:NS):Option NS:=bif Nat.blt i k then (match lkN ns i with
  | some m => bif Nat.beq m n then some ns else none
  | none => some ((i,n) :: ns)) else none

def kNum:IntKind→Nat
  | .i8 => 0 | .i16 => 1 | .i32 => 2 | .i64 => 3 | .u8 => 4 | .u16 => 5 | .u32 => 6 | .u64 => 7
theorem kNum_inj {a b:IntKind} (h:kNum a=kNum b):a=b:=by cases a <;> cases b <;> first | rfl | (simp [kNum] at h)

def mL (m:Value→Value→NS→Option NS):List Value→List Value→NS→Option NS
  | [],[],ns => some ns
  | a :: l,b :: l',ns => match m a b ns with
    | some ns => mL m l l' ns
    | none => none
  | _,_,_ => none
def mV (k:Nat):Nat→Value→Value→NS→Option NS
  | 0,_,_,_ => none
  | d + 1,a,b,ns => match a with
    | .int ka na => match b with
      | .int kb nb => bif Nat.beq (kNum ka) (kNum kb) && eqI na nb then some ns else none
      | _ => none
    | .bool x => match b with
      | .bool y => bif (bif x then y else !y) then some ns else none
      | _ => none
    | .string x => match b with
      | .string y => bif strEq x y then some ns else none
      | _ => none
    | .slice none l c => match b with
      | .slice none l' c' => bif Nat.beq l l' && Nat.beq c c' then some ns else none
      | _ => none
    | .slice (some ⟨i,p,none⟩) l c => match b with
      | .slice (some ⟨n,p',none⟩) l' c' => bif Nat.beq l l' && (Nat.beq c c' && Nat.beq p p') then bindN k i n ns else none
      | _ => none
    | .pointer (some ⟨i,p,none⟩) => match b with
      | .pointer (some ⟨n,p',none⟩) => bif Nat.beq p p' then bindN k i n ns else none
      | _ => none
    | .agg x => match b with
      | .agg y => mL (mV k d) x.toList y.toList ns
      | _ => none
    | .tuple x => match b with
      | .tuple y => mL (mV k d) x.toList y.toList ns
      | _ => none
    | .func (.func f) x c => match b with
      | .func (.func g) y e => bif Nat.beq f g then (match mL (mV k d) x.toList y.toList ns with
        | some ns => mL (mV k d) c.toList e.toList ns
        | none => none) else none
      | _ => none
    | _ => none

def subN (a b:NS):Prop:=∀ i n,lkN a i=some n→lkN b i=some n
theorem bindN_spec {k i n:Nat} {ns ns' : NS} (h:bindN k i n ns=some ns'):i < k∧lkN ns' i=some n∧subN ns ns':=by
  unfold bindN at h
  rw [blt_dec] at h
  by_cases hi:i < k
  · rw [decide_eq_true hi,cond_true] at h
    refine ⟨hi,?_⟩
    split at h
    · rename_i m hm
      rw [beq_dec] at h
      by_cases e:m=n
      · rw [decide_eq_true e,cond_true] at h; cases h
        exact ⟨e ▸ hm,fun _ _ h => h⟩
      · rw [decide_eq_false e] at h; cases h
    · rename_i hm
      cases h
      refine ⟨by simp [lkN],fun j m hj => ?_⟩
      simp only [lkN,beq_dec]
      by_cases e:i=j
      · subst e; rw [hm] at hj; cases hj
      · simp [e,hj]
  · rw [decide_eq_false hi] at h; cases h

section
variable {k:Nat}
def MOk (k:Nat) (m:Value→Value→NS→Option NS):Prop:=∀ a b ns ns',m a b ns=some ns'→subN ns ns'∧∀ σ:Nat→Nat,(∀ i n,lkN ns' i=some n→σ i=n)→RV 0 (fun i => i < k) σ a b
theorem mL_spec {m:Value→Value→NS→Option NS} (hm:MOk k m) : ∀ (l l' : List Value) (ns ns' : NS),mL m l l' ns=some ns'→subN ns ns'∧∀ σ:Nat→Nat,(∀ i n,lkN ns' i=some n→σ i=n)→l.length=l'.length∧∀ i,i < l.length→RV 0 (fun i => i < k) σ (l.getD i undef) (l'.getD i undef):=by
  intro l
  induction l with
  | nil =>
    intro l' ns ns' h
    cases l' with
    | nil => cases h; exact ⟨fun _ _ h => h,fun σ _ => ⟨rfl,fun i hi => absurd hi (Nat.not_lt_zero _)⟩⟩
    | cons b l' => cases h
  | cons a l ih =>
    intro l' ns ns' h
    cases l' with
    | nil => cases h
    | cons b l' =>
      simp only [mL] at h
      split at h <;> try (cases h; done)
      rename_i n1 h1
      obtain ⟨g1,g2⟩:=hm _ _ _ _ h1
      obtain ⟨g3,g4⟩:=ih _ _ _ h
      refine ⟨fun i n hi => g3 i n (g1 i n hi),fun σ hσ => ?_⟩
      obtain ⟨q1,q2⟩:=g4 σ hσ
      refine ⟨by simp [q1],fun i hi => ?_⟩
      cases i with
      | zero => simpa using g2 σ fun i n hi => hσ i n (g3 i n hi)
      | succ i => simpa using q2 i (by simpa using hi)
theorem getD_toList (x:Array Value) (i:Nat):x.toList.getD i undef=x.getD i undef:=by simp [List.getD,Array.getD_eq_getD_getElem?]
theorem mV_spec : ∀ d:Nat,MOk k (mV k d):=by
  intro d
  induction d with
  | zero => intro a b ns ns' h; cases h
  | succ d ih =>
    intro a b ns ns' h
    simp only [mV] at h
    split at h
    · split at h <;> try (cases h; done)
      rename_i ka na _ kb nb
      cases hc : (Nat.beq (kNum ka) (kNum kb) && eqI na nb) with
      | false => rw [hc] at h; cases h
      | true =>
        rw [hc] at h; cases h
        rw [Bool.and_eq_true,eqI_eq,beq_iff_eq,Nat.beq_eq] at hc
        obtain ⟨e1,rfl⟩:=hc
        obtain rfl:=kNum_inj e1
        exact ⟨fun _ _ h => h,fun σ _ => .int _ _⟩
    · split at h <;> try (cases h; done)
      rename_i x _ y
      cases x <;> cases y <;> first | (cases h; exact ⟨fun _ _ h => h,fun σ _ => .bool _⟩) | cases h
    · split at h <;> try (cases h; done)
      rename_i x _ y
      cases hc:strEq x y with
      | false => rw [hc] at h; cases h
      | true =>
        rw [hc] at h; cases h
        rw [strEq_eq,beq_iff_eq] at hc
        have hxy:x=y:=by
          have h1:x.data=y.data:=by
            apply Array.ext'
            have e1:x.toList=x.data.toList:=by rw [ByteArray.toList_eq]
            have e2:y.toList=y.data.toList:=by rw [ByteArray.toList_eq]
            rw [← e1,← e2]; exact hc
          cases x; cases y; simpa using h1
        subst hxy
        exact ⟨fun _ _ h => h,fun σ _ => .string _⟩
    · split at h <;> try (cases h; done)
      rename_i l c _ l' c'
      cases hc : (Nat.beq l l' && Nat.beq c c') with
      | false => rw [hc] at h; cases h
      | true =>
        rw [hc] at h; cases h
        rw [Bool.and_eq_true,Nat.beq_eq,Nat.beq_eq] at hc
        obtain ⟨rfl,rfl⟩:=hc
        exact ⟨fun _ _ h => h,fun σ _ => .nilSlice _ _⟩
    · split at h <;> try (cases h; done)
      rename_i i p l c _ n p' l' c'
      cases hc : (Nat.beq l l' && (Nat.beq c c' && Nat.beq p p')) with
      | false => rw [hc] at h; cases h
      | true =>
        rw [hc,cond_true] at h
        rw [Bool.and_eq_true,Bool.and_eq_true,Nat.beq_eq,Nat.beq_eq,Nat.beq_eq] at hc
        obtain ⟨rfl,rfl,rfl⟩:=hc
        obtain ⟨g1,g2,g3⟩:=bindN_spec h
        refine ⟨g3,fun σ hσ => ?_⟩
        rw [← hσ i n g2]
        exact .slice i p none l c (Nat.zero_le _) g1
    · split at h <;> try (cases h; done)
      rename_i i p _ n p'
      cases hc:Nat.beq p p' with
      | false => rw [hc] at h; cases h
      | true =>
        rw [hc,cond_true] at h
        rw [Nat.beq_eq] at hc
        subst hc
        obtain ⟨g1,g2,g3⟩:=bindN_spec h
        refine ⟨g3,fun σ hσ => ?_⟩
        rw [← hσ i n g2]
        exact .ptr i p (Nat.zero_le _) g1
    · split at h <;> try (cases h; done)
      rename_i x _ y
      obtain ⟨g1,g2⟩:=mL_spec ih _ _ _ _ h
      refine ⟨g1,fun σ hσ => ?_⟩
      obtain ⟨q1,q2⟩:=g2 σ hσ
      exact .agg _ _ (by simpa using q1) fun i hi => by have:=q2 i (by simpa using hi); rwa [getD_toList,getD_toList] at this
    · split at h <;> try (cases h; done)
      rename_i x _ y
      obtain ⟨g1,g2⟩:=mL_spec ih _ _ _ _ h
      refine ⟨g1,fun σ hσ => ?_⟩
      obtain ⟨q1,q2⟩:=g2 σ hσ
      exact .tuple _ _ (by simpa using q1) fun i hi => by have:=q2 i (by simpa using hi); rwa [getD_toList,getD_toList] at this
    · split at h <;> try (cases h; done)
      rename_i f x c _ g y e
      cases hc:Nat.beq f g with
      | false => rw [hc] at h; cases h
      | true =>
        rw [hc,cond_true] at h
        rw [Nat.beq_eq] at hc
        subst hc
        split at h <;> try (cases h; done)
        rename_i n1 h1
        obtain ⟨g1,g2⟩:=mL_spec ih _ _ _ _ h1
        obtain ⟨g3,g4⟩:=mL_spec ih _ _ _ _ h
        refine ⟨fun i n hi => g3 i n (g1 i n hi),fun σ hσ => ?_⟩
        obtain ⟨q1,q2⟩:=g2 σ fun i n hi => hσ i n (g3 i n hi)
        obtain ⟨q3,q4⟩:=g4 σ hσ
        exact .func _ _ _ _ _ _ (.func _) (by simpa using q1) (fun i hi => by have:=q2 i (by simpa using hi); rwa [getD_toList,getD_toList] at this) (by simpa using q3) fun i hi => by have:=q4 i (by simpa using hi); rwa [getD_toList,getD_toList] at this
    · cases h
end

def ckRows (eh:EH) (ns:NS):List (Option (List Value))→Nat→List Nat→Bool
  | [],_,_ => true
  | none :: l,i,seen => ckRows eh ns l (Nat.succ i) seen
  | some c :: l,i,seen => match lkN ns i with
    | none => false
    | some n => match eh.m.get n with
      | some (.row c') => (match mL (mV 0 6) c c' [] with
        | some _ => !(seen.any (Nat.beq n)) && ckRows eh ns l (Nat.succ i) (n :: seen)
        | none => false)
      | _ => false
def orcL:List OE→OC
  | [],_,_,_ => none
  | e :: l,f,args,eh => bif Nat.beq e.f f then (match mL (mV e.k 6) e.args args [] with
      | some ns => bif ckRows eh ns e.rows 0 [] then some e.v else orcL l f args eh
      | none => orcL l f args eh) else orcL l f args eh

def rowsH (k:Nat):List (Option (List Value))→Nat→SH
  | [],_ => ⟨#[],k,.nil,fun n => n < k⟩
  | none :: l,i => rowsH k l (i + 1)
  | some c :: l,i => (rowsH k l (i + 1)).put i (some (.row c.toArray .raw))
theorem rowsH_same (k:Nat) : ∀ (l:List (Option (List Value))) (i:Nat),(rowsH k l i).old=#[]∧(rowsH k l i).next=k∧(rowsH k l i).live=fun n => n < k:=by
  intro l
  induction l with
  | nil => intro i; exact ⟨rfl,rfl,rfl⟩
  | cons c l ih => intro i; cases c <;> simp [rowsH,ih (i + 1)]
theorem rowsH_get (k:Nat) : ∀ (l:List (Option (List Value))) (i n:Nat),(rowsH k l i).get n=if i ≤ n then (match l.getD (n - i) none with | some c => some (.row c.toArray .raw) | none => none) else none:=by
  intro l
  induction l with
  | nil => intro i n; simp [rowsH,SH.get,Tr.get_nil]
  | cons c l ih =>
    intro i n
    have hr : (rowsH k l (i + 1)).get n=if i + 1 ≤ n then (match l.getD (n - (i + 1)) none with | some c => some (.row c.toArray .raw) | none => none) else none:=ih (i + 1) n
    by_cases h1:i ≤ n
    · by_cases h2:i=n
      · subst h2
        cases c with
        | none => simp only [rowsH,hr,show ¬ i + 1 ≤ i by omega,if_false]; simp
        | some c => simp [rowsH]
      · have e1:n - i=(n - (i + 1)) + 1:=by omega
        have h3:i + 1 ≤ n:=by omega
        cases c with
        | none => simp only [rowsH,hr,h1,h3,if_true,e1,List.getD_cons_succ]
        | some c => simp only [rowsH,SH.get_put,if_neg (Ne.symm h2),hr,h1,h3,if_true,e1,List.getD_cons_succ]
    · have h2 : ¬ i + 1 ≤ n:=by omega
      have h3:n ≠ i:=by omega
      cases c with
      | none => simp only [rowsH,hr,h1,h2,if_false]
      | some c => simp only [rowsH,SH.get_put,if_neg h3,hr,h1,h2,if_false]

def OEok (P:Program) (e:OE):Prop:=rigid 6 e.v=true∧e.rows.length ≤ e.k∧(∀ c,some c ∈ e.rows→∀ v ∈ c,rigid 6 v=true)∧∃ A',T P e.f e.args.toArray (rowsH e.k e.rows 0) (.returned e.v) A'∧Keep (rowsH e.k e.rows 0) A'

theorem ckRows_spec {eh:EH} {ns:NS} : ∀ (l:List (Option (List Value))) (i:Nat) (seen:List Nat),ckRows eh ns l i seen=true→∀ j c,l.getD j none=some c→∃ n c',lkN ns (i + j) = some n∧eh.m.get n=some (.row c')∧(mL (mV 0 6) c c' []).isSome∧n ∉ seen∧
    ∀ j' c2 n',j < j'→l.getD j' none=some c2→lkN ns (i + j') = some n'→n' ≠ n:=by
  intro l
  induction l with
  | nil => intro i seen _ j c h; simp at h
  | cons o l ih =>
    intro i seen h j c hj
    cases o with
    | none =>
      simp only [ckRows] at h
      cases j with
      | zero => simp at hj
      | succ j =>
        obtain ⟨n,c',g1,g2,g3,g4,g5⟩:=ih (Nat.succ i) seen h j c (by simpa using hj)
        refine ⟨n,c',by rw [show i + (j + 1) = Nat.succ i + j by omega]; exact g1,g2,g3,g4,fun j' c2 n' hlt h2 h3 => ?_⟩
        cases j' with
        | zero => omega
        | succ j' => exact g5 j' c2 n' (by omega) (by simpa using h2) (by rw [show Nat.succ i + j' = i + (j' + 1) by omega]; exact h3)
    | some d =>
      simp only [ckRows] at h
      split at h <;> try (cases h; done)
      rename_i n hn
      split at h <;> try (cases h; done)
      rename_i c' hc'
      split at h <;> try (cases h; done)
      rename_i m hm
      rw [Bool.and_eq_true,Bool.not_eq_true'] at h
      obtain ⟨h1,h2⟩:=h
      have hns:n ∉ seen:=fun hmem => by
        have:seen.any (Nat.beq n) = true:=List.any_eq_true.2 ⟨n,hmem,by simp⟩
        rw [this] at h1; cases h1
      cases j with
      | zero =>
        have:d=c:=by simpa using hj
        subst this
        refine ⟨n,c',by simpa using hn,hc',by simp [hm],hns,fun j' c2 n' hlt g2 g3 => ?_⟩
        cases j' with
        | zero => omega
        | succ j' =>
          obtain ⟨n2,_,q1,_,_,q4,_⟩:=ih (Nat.succ i) (n :: seen) h2 j' c2 (by simpa using g2)
          rw [show i + (j' + 1) = Nat.succ i + j' by omega,q1] at g3
          cases g3
          exact fun e => q4 (by simp [e])
      | succ j =>
        obtain ⟨n2,c2,g1,g2,g3,g4,g5⟩:=ih (Nat.succ i) (n :: seen) h2 j c (by simpa using hj)
        refine ⟨n2,c2,by rw [show i + (j + 1) = Nat.succ i + j by omega]; exact g1,g2,g3,fun hm => g4 (by simp [hm]),fun j' c3 n' hlt k2 k3 => ?_⟩
        cases j' with
        | zero => omega
        | succ j' => exact g5 j' c3 n' (by omega) (by simpa using k2) (by rw [show Nat.succ i + j' = i + (j' + 1) by omega]; exact k3)

theorem mL0_eq {c c' : List Value} (hr : ∀ v ∈ c,rigid 6 v=true) (h : (mL (mV 0 6) c c' []).isSome):c' = c:=by
  obtain ⟨ns,hn⟩:=Option.isSome_iff_exists.1 h
  obtain ⟨_,g⟩:=mL_spec (mV_spec (k:=0) 6) _ _ _ _ hn
  obtain ⟨h1,h2⟩:=g (fun i => (lkN ns i).getD 0) fun i n hi => by simp [hi]
  refine List.ext_getElem h1.symm fun i hi hi' => ?_
  have:=h2 i hi'
  have e1:c.getD i undef=c[i]:=by simp [List.getD,hi']
  have e2:c'.getD i undef=c'[i]:=by simp [List.getD,hi]
  rw [e1,e2] at this
  have hv:=hr c[i] (List.getElem_mem hi')
  exact ((rigid_rv (N:=fun i => i < 0) (B:=0) (σ:=fun i => (lkN ns i).getD 0) hv).uniq (fun _ _ => rfl) this).symm

theorem orcL_ok {P:Program} : ∀ {l:List OE},(∀ e ∈ l,OEok P e)→OrcOk P (orcL l):=by
  intro l
  induction l with
  | nil => intro _ f args eh v h; cases h
  | cons e l ih =>
    intro hl f args eh v h H hH
    have rest:=ih (fun e' he => hl e' (by simp [he])) f args eh v
    simp only [orcL] at h
    cases hf:Nat.beq e.f f with
    | false => rw [hf] at h; exact rest h H hH
    | true =>
      rw [hf,cond_true] at h
      rw [Nat.beq_eq] at hf
      split at h
      · rename_i ns hns
        cases hck:ckRows eh ns e.rows 0 [] with
        | false => rw [hck] at h; exact rest h H hH
        | true =>
          rw [hck] at h; cases h
          obtain ⟨h1,h2,h3,A',hT,hk⟩:=hl e (by simp)
          obtain ⟨q1,q2,q3⟩:=rowsH_same e.k e.rows 0
          have hB : (rowsH e.k e.rows 0).B=0:=by unfold SH.B; rw [q1]; rfl
          have hgd : ∀ n x,(rowsH e.k e.rows 0).get n=some x→∃ c,e.rows.getD n none=some c∧x=.row c.toArray .raw∧n < e.rows.length:=fun n x hx => by
            rw [rowsH_get] at hx
            simp only [Nat.zero_le,if_true,Nat.sub_zero] at hx
            cases hc:e.rows.getD n none with
            | none => rw [hc] at hx; cases hx
            | some c =>
              rw [hc] at hx; cases hx
              refine ⟨c,rfl,rfl,?_⟩
              by_cases hn:n < e.rows.length
              · exact hn
              · simp [List.getD,hn] at hc
          obtain ⟨σ,hσ⟩ : ∃ σ:Nat→Nat,σ=fun i => (lkN ns i).getD 0:=⟨_,rfl⟩
          have hσ2 : ∀ i n,lkN ns i=some n→σ i=n:=fun i n hi => by rw [hσ]; simp [hi]
          obtain ⟨_,hm⟩:=mL_spec (mV_spec (k:=e.k) 6) _ _ _ _ hns
          obtain ⟨m1,m2⟩:=hm σ hσ2
          have hspec:=ckRows_spec e.rows 0 [] hck
          subst hf
          refine T.ro (σ:=σ) (d:=6) hT hk h1 hB (fun n _ => by rw [hH.b]; exact Nat.zero_le _) (fun n x hx => ?_) (fun n hn => ?_) (fun n hn => ?_) (fun n m hn hm' e' => ?_) ?_
          · obtain ⟨c,g1,rfl,g3⟩:=hgd n x hx
            obtain ⟨n',c',k1,k2,k3,_⟩:=hspec n c g1
            rw [Nat.zero_add] at k1
            obtain ⟨y,hy,hb⟩:=hH.get _ _ k2
            have hmem:some c ∈ e.rows:=by
              have:e.rows[n] = some c:=by simpa [List.getD,g3] using g1
              rw [← this]; exact List.getElem_mem g3
            have hrig:=h3 c hmem
            obtain rfl:=mL0_eq hrig k3
            cases hb with
            | row _ t =>
              refine ⟨_,_,t,rfl,by rw [hσ2 n n' k1]; exact hy,fun i hi => ?_⟩
              have hi' : i < c'.length:=by simpa using hi
              have:c'.toArray.getD i undef=c'[i]:=by simp [Array.getD,hi']
              rw [this]; exact hrig _ (List.getElem_mem hi')
          · obtain ⟨x,hx⟩:=Option.isSome_iff_exists.1 hn
            obtain ⟨c,_,_,g3⟩:=hgd n x hx
            rw [q3]; show n < e.k; omega
          · rw [q3] at hn; rw [q2]; exact hn
          · obtain ⟨x,hx⟩:=Option.isSome_iff_exists.1 hn
            obtain ⟨y,hy⟩:=Option.isSome_iff_exists.1 hm'
            obtain ⟨c,g1,_,_⟩:=hgd n x hx
            obtain ⟨d,g2,_,_⟩:=hgd m y hy
            obtain ⟨n1,_,k1,_,_,_,k5⟩:=hspec n c g1
            obtain ⟨n2,_,l1,_,_,_,l5⟩:=hspec m d g2
            have a1:=hσ2 n n1 (by simpa using k1)
            have a2:=hσ2 m n2 (by simpa using l1)
            rcases Nat.lt_trichotomy n m with hlt | heq | hlt
            · exact absurd (by omega:n2=n1) (k5 m d n2 hlt g2 l1)
            · exact heq
            · exact absurd (by omega:n1=n2) (l5 n c n1 hlt g1 k1)
          · rw [hB,q3]
            refine ⟨by simpa using m1,fun i hi => ?_⟩
            have:=m2 i (by simpa using hi)
            simpa [Array.getD_eq_getD_getElem?,List.getD] using this
      · exact rest h H hH

def oeCk (orc:OC) (tt:Bt TI) (ft:Bt Func) (pl:Bt (Bt Plan)) (n:Nat) (e:OE) (bt:Bt EBlk):Bool:=match (evAll orc tt ft pl n).2 e.f e.args ⟨e.k,bt,e.k⟩ with
  | some (v,eh') => (match mV 0 6 e.v v [] with
    | some _ => Nat.ble e.k eh'.lw
    | none => false)
  | none => false
theorem mV0_eq {v u:Value} {ns:NS} (hr:rigid 6 v=true) (h:mV 0 6 v u [] = some ns):u=v:=by
  obtain ⟨_,g⟩:=mV_spec (k:=0) 6 _ _ _ _ h
  have:=g (fun i => (lkN ns i).getD 0) fun i n hi => by simp [hi]
  exact ((rigid_rv (N:=fun i => i < 0) (B:=0) (σ:=fun i => (lkN ns i).getD 0) hr).uniq (fun _ _ => rfl) this).symm
theorem oe_run {P:Program} {tt:Bt TI} {ft:Bt Func} {pl:Bt (Bt Plan)} {orc:OC} (ho:OrcOk P orc) (ht:TOk P tt) (hf:FOk P ft) (hm:P.follows .mixedOrders=true) (n:Nat) (e:OE) (bt:Bt EBlk) (h1:rigid 6 e.v=true) (h2:Nat.ble e.rows.length e.k=true)
    (h3 : (e.rows.all fun o => match o with | some c => c.all (rigid 6) | none => true) = true) (hb:BtAll (fun n x => ∃ c,x=.row c∧e.rows.getD n none=some c) id bt)
    (h:oeCk orc tt ft pl n e bt=true):OEok P e:=by
  obtain ⟨q1,q2,q3⟩:=rowsH_same e.k e.rows 0
  have hB : (rowsH e.k e.rows 0).B=0:=by unfold SH.B; rw [q1]; rfl
  have hlen:=Nat.le_of_ble_eq_true h2
  have hS:SimH ⟨e.k,bt,e.k⟩ (rowsH e.k e.rows 0):=by
    refine ⟨q2,fun n x hx => ?_,fun n x hx => ?_,hB⟩
    · obtain ⟨c,rfl,hc⟩:=btAll bt hb n x hx
      by_cases hn:n < e.rows.length
      · show n < e.k; omega
      · simp [List.getD,hn] at hc
    · obtain ⟨c,rfl,hc⟩:=btAll bt hb n x hx
      refine ⟨_,?_,.row c .raw⟩
      rw [rowsH_get]; simp only [Nat.zero_le,if_true,Nat.sub_zero,hc]
  unfold oeCk at h
  split at h <;> try (cases h; done)
  rename_i v eh' hev
  split at h <;> try (cases h; done)
  rename_i ns hns
  obtain rfl:=mV0_eq h1 hns
  obtain ⟨H',t,g⟩:=ev_run ho ht hf hm hev hS
  refine ⟨h1,hlen,fun c hc v hv => ?_,H',t,g.keep.k fun m hm => by rw [q2]; exact Nat.le_trans (Nat.le_of_ble_eq_true h) hm⟩
  have:=List.all_eq_true.1 h3 _ hc
  exact List.all_eq_true.1 this v hv

theorem oe_call {P:Program} {e:OE} (h:OEok P e) (ha:e.args=[]) (hr:e.rows=[]) (hk:e.k=0) {H:SH} (wt:WT H):WC P e.f [] H fun v H' => Keep H H'∧WT H'∧v=e.v:=by
  obtain ⟨h1,h2,h3,A',hT,hkp⟩:=h
  rw [ha,hr,hk] at hT
  rw [hr,hk] at hkp
  refine ⟨e.v,H,?_,.refl _,wt,rfl⟩
  refine T.ro (σ:=id) (d:=6) hT hkp h1 rfl (fun n hn => absurd hn (Nat.not_lt_zero n)) (fun n x hx => ?_) (fun n hn => ?_) (fun n hn => hn) (fun n m hn _ _ => ?_) ⟨rfl,fun i hi => absurd hi (Nat.not_lt_zero i)⟩
  · rw [rowsH_get] at hx; simp at hx
  · rw [rowsH_get] at hn; simp at hn
  · rw [rowsH_get] at hn; simp at hn
def OEs (P:Program):List OE→Prop
  | [] => True
  | e :: l => OEok P e∧OEs P l
theorem oes {P:Program} : ∀ {l:List OE},OEs P l→∀ e ∈ l,OEok P e:=by
  intro l
  induction l with
  | nil => intro _ e he; cases he
  | cons a l ih =>
    intro h e he
    rcases List.mem_cons.1 he with rfl | he
    · exact h.1
    · exact ih h.2 e he
end Go.Proofs.Orl

namespace Go.Proofs.Orl
open Go
set_option maxRecDepth 100000
set_option maxHeartbeats 4000000
noncomputable def evti3:TI:=⟨1,false,some [vI 0],vI 0,Try.t3.desc,8,[],false⟩
theorem evtiok3:TIok Try.prog 3 evti3:=⟨by kernel_rfl,by kernel_rfl,(fun l h => by cases h; exact ⟨by kernel_rfl,rfl,rfl,rfl⟩),Try.underlying3,⟨Try.t3,by kernel_rfl,rfl,rfl⟩,fun fs h hne => absurd rfl hne,(fun h => by cases h)⟩
noncomputable def evti4:TI:=⟨1,false,some [.bool false],.bool false,Try.t4.desc,1,[],false⟩
theorem evtiok4:TIok Try.prog 4 evti4:=⟨by kernel_rfl,by kernel_rfl,(fun l h => by cases h; exact ⟨by kernel_rfl,rfl,rfl,rfl⟩),Try.underlying4,⟨Try.t4,by kernel_rfl,rfl,rfl⟩,fun fs h hne => absurd rfl hne,(fun h => by cases h)⟩
noncomputable def evti23:TI:=⟨2,true,some [vI 0,vI 0],.agg #[vI 0,vI 0],Try.t22.desc,16,[(0,1),(1,1)],true⟩
theorem evtiok23:TIok Try.prog 23 evti23:=⟨by kernel_rfl,by kernel_rfl,(fun l h => by cases h; exact ⟨by kernel_rfl,rfl,rfl,rfl⟩),Try.underlying23,⟨Try.t23,by kernel_rfl,rfl,rfl⟩,(fun fs h hne => by kernel_rfl),(fun _ => ⟨by kernel_rfl,by kernel_rfl,by kernel_rfl⟩)⟩
noncomputable def evti24:TI:=⟨1,false,some [.slice none 0 0],.slice none 0 0,Try.t24.desc,24,[],false⟩
theorem evtiok24:TIok Try.prog 24 evti24:=⟨by kernel_rfl,by kernel_rfl,(fun l h => by cases h; exact ⟨by kernel_rfl,rfl,rfl,rfl⟩),Try.underlying24,⟨Try.t24,by kernel_rfl,rfl,rfl⟩,fun fs h hne => absurd rfl hne,(fun h => by cases h)⟩
noncomputable def evti26:TI:=⟨6,true,some [vI 0,vI 0,vI 0,vI 0,vI 0,.slice none 0 0],.agg #[vI 0,vI 0,vI 0,vI 0,vI 0,.slice none 0 0],Try.t25.desc,64,[(0,2),(2,2),(4,1),(5,1)],false⟩
theorem evtiok26:TIok Try.prog 26 evti26:=⟨by kernel_rfl,by kernel_rfl,(fun l h => by cases h; exact ⟨by kernel_rfl,rfl,rfl,rfl⟩),Try.underlying26,⟨Try.t26,by kernel_rfl,rfl,rfl⟩,(fun fs h hne => by kernel_rfl),(fun h => by cases h)⟩
noncomputable def evti28:TI:=⟨3,true,some [vI 0,vI 0,vI 0],.agg #[vI 0,vI 0,vI 0],Try.t27.desc,24,[(0,2),(2,1)],true⟩
theorem evtiok28:TIok Try.prog 28 evti28:=⟨by kernel_rfl,by kernel_rfl,(fun l h => by cases h; exact ⟨by kernel_rfl,rfl,rfl,rfl⟩),Try.underlying28,⟨Try.t28,by kernel_rfl,rfl,rfl⟩,(fun fs h hne => by kernel_rfl),(fun _ => ⟨by kernel_rfl,by kernel_rfl,by kernel_rfl⟩)⟩
noncomputable def evti30:TI:=⟨2,true,some [vI 0,vI 0],.agg #[vI 0,vI 0],Try.t29.desc,16,[(0,1),(1,1)],true⟩
theorem evtiok30:TIok Try.prog 30 evti30:=⟨by kernel_rfl,by kernel_rfl,(fun l h => by cases h; exact ⟨by kernel_rfl,rfl,rfl,rfl⟩),Try.underlying30,⟨Try.t30,by kernel_rfl,rfl,rfl⟩,(fun fs h hne => by kernel_rfl),(fun _ => ⟨by kernel_rfl,by kernel_rfl,by kernel_rfl⟩)⟩
noncomputable def evti31:TI:=⟨1,false,some [.slice none 0 0],.slice none 0 0,Try.t31.desc,24,[],false⟩
theorem evtiok31:TIok Try.prog 31 evti31:=⟨by kernel_rfl,by kernel_rfl,(fun l h => by cases h; exact ⟨by kernel_rfl,rfl,rfl,rfl⟩),Try.underlying31,⟨Try.t31,by kernel_rfl,rfl,rfl⟩,fun fs h hne => absurd rfl hne,(fun h => by cases h)⟩
noncomputable def evti34:TI:=⟨1,false,some [.slice none 0 0],.slice none 0 0,Try.t34.desc,24,[],false⟩
theorem evtiok34:TIok Try.prog 34 evti34:=⟨by kernel_rfl,by kernel_rfl,(fun l h => by cases h; exact ⟨by kernel_rfl,rfl,rfl,rfl⟩),Try.underlying34,⟨Try.t34,by kernel_rfl,rfl,rfl⟩,fun fs h hne => absurd rfl hne,(fun h => by cases h)⟩
noncomputable def evti41:TI:=⟨1,false,some [vI 0],vI 0,Try.t3.desc,8,[],false⟩
theorem evtiok41:TIok Try.prog 41 evti41:=⟨by kernel_rfl,by kernel_rfl,(fun l h => by cases h; exact ⟨by kernel_rfl,rfl,rfl,rfl⟩),Try.underlying41,⟨Try.t41,by kernel_rfl,rfl,rfl⟩,fun fs h hne => absurd rfl hne,(fun h => by cases h)⟩
noncomputable def evti59:TI:=⟨4,true,some [vI 0,vI 0,vI 0,vI 0],.agg #[vI 0,vI 0,vI 0,vI 0],Try.t58.desc,32,[(0,1),(1,1),(2,1),(3,1)],true⟩
theorem evtiok59:TIok Try.prog 59 evti59:=⟨by kernel_rfl,by kernel_rfl,(fun l h => by cases h; exact ⟨by kernel_rfl,rfl,rfl,rfl⟩),Try.underlying59,⟨Try.t59,by kernel_rfl,rfl,rfl⟩,(fun fs h hne => by kernel_rfl),(fun _ => ⟨by kernel_rfl,by kernel_rfl,by kernel_rfl⟩)⟩
noncomputable def evti74:TI:=⟨4,true,some [vI 0,vI 0,vI 0,vI 0],.agg #[vI 0,vI 0,vI 0,vI 0],Try.t73.desc,32,[(0,2),(2,1),(3,1)],true⟩
theorem evtiok74:TIok Try.prog 74 evti74:=⟨by kernel_rfl,by kernel_rfl,(fun l h => by cases h; exact ⟨by kernel_rfl,rfl,rfl,rfl⟩),Try.underlying74,⟨Try.t74,by kernel_rfl,rfl,rfl⟩,(fun fs h hne => by kernel_rfl),(fun _ => ⟨by kernel_rfl,by kernel_rfl,by kernel_rfl⟩)⟩
noncomputable def evti77:TI:=⟨5,true,some [vI 0,vI 0,vI 0,vI 0,vI 0],.agg #[vI 0,vI 0,vI 0,vI 0,vI 0],Try.t76.desc,40,[(0,1),(1,2),(3,2)],true⟩
theorem evtiok77:TIok Try.prog 77 evti77:=⟨by kernel_rfl,by kernel_rfl,(fun l h => by cases h; exact ⟨by kernel_rfl,rfl,rfl,rfl⟩),Try.underlying77,⟨Try.t77,by kernel_rfl,rfl,rfl⟩,(fun fs h hne => by kernel_rfl),(fun _ => ⟨by kernel_rfl,by kernel_rfl,by kernel_rfl⟩)⟩
noncomputable def evti79:TI:=⟨9,true,some [vI 0,vI 0,vI 0,vI 0,vI 0,.slice none 0 0,vI 0,vI 0,vI 0],.agg #[vI 0,vI 0,vI 0,vI 0,vI 0,.slice none 0 0,vI 0,vI 0,vI 0],Try.t78.desc,88,[(0,6),(6,3)],false⟩
theorem evtiok79:TIok Try.prog 79 evti79:=⟨by kernel_rfl,by kernel_rfl,(fun l h => by cases h; exact ⟨by kernel_rfl,rfl,rfl,rfl⟩),Try.underlying79,⟨Try.t79,by kernel_rfl,rfl,rfl⟩,(fun fs h hne => by kernel_rfl),(fun h => by cases h)⟩
noncomputable def evti83:TI:=⟨4,true,some [vI 0,vI 0,vI 0,vI 0],.agg #[vI 0,vI 0,vI 0,vI 0],Try.t83.desc,32,[],false⟩
theorem evtiok83:TIok Try.prog 83 evti83:=⟨by kernel_rfl,by kernel_rfl,(fun l h => by cases h; exact ⟨by kernel_rfl,rfl,rfl,rfl⟩),Try.underlying83,⟨Try.t83,by kernel_rfl,rfl,rfl⟩,fun fs h hne => absurd rfl hne,(fun h => by cases h)⟩
noncomputable def evti87:TI:=⟨8,true,some [vI 0,vI 0,vI 0,vI 0,vI 0,vI 0,vI 0,vI 0],.agg #[vI 0,vI 0,vI 0,vI 0,vI 0,vI 0,vI 0,vI 0],Try.t86.desc,64,[],false⟩
theorem evtiok87:TIok Try.prog 87 evti87:=⟨by kernel_rfl,by kernel_rfl,(fun l h => by cases h; exact ⟨by kernel_rfl,rfl,rfl,rfl⟩),Try.underlying87,⟨Try.t87,by kernel_rfl,rfl,rfl⟩,fun fs h hne => absurd rfl hne,(fun h => by cases h)⟩
noncomputable def evti90:TI:=⟨1,false,some [.nilFunc],.nilFunc,Try.t90.desc,8,[],false⟩
theorem evtiok90:TIok Try.prog 90 evti90:=⟨by kernel_rfl,by kernel_rfl,(fun l h => by cases h; exact ⟨by kernel_rfl,rfl,rfl,rfl⟩),Try.underlying90,⟨Try.t90,by kernel_rfl,rfl,rfl⟩,fun fs h hne => absurd rfl hne,(fun h => by cases h)⟩
noncomputable def evti99:TI:=⟨10,true,some [vI 0,vI 0,vI 0,vI 0,vI 0,.slice none 0 0,vI 0,vI 0,vI 0,vI 0],.agg #[vI 0,vI 0,vI 0,vI 0,vI 0,.slice none 0 0,vI 0,vI 0,vI 0,vI 0],Try.t98.desc,96,[(0,9),(9,1)],false⟩
theorem evtiok99:TIok Try.prog 99 evti99:=⟨by kernel_rfl,by kernel_rfl,(fun l h => by cases h; exact ⟨by kernel_rfl,rfl,rfl,rfl⟩),Try.underlying99,⟨Try.t99,by kernel_rfl,rfl,rfl⟩,(fun fs h hne => by kernel_rfl),(fun h => by cases h)⟩
noncomputable def evti108:TI:=⟨1,false,some [.slice none 0 0],.slice none 0 0,Try.t108.desc,24,[],false⟩
theorem evtiok108:TIok Try.prog 108 evti108:=⟨by kernel_rfl,by kernel_rfl,(fun l h => by cases h; exact ⟨by kernel_rfl,rfl,rfl,rfl⟩),Try.underlying108,⟨Try.t108,by kernel_rfl,rfl,rfl⟩,fun fs h hne => absurd rfl hne,(fun h => by cases h)⟩
noncomputable def evtt:Bt TI:=(.node none (.node none (.node (some evti3) (.node none (.node none (.node (some evti31) .nil .nil) (.node none (.node (some evti79) .nil .nil) .nil)) (.node (some evti23) .nil (.node none (.node (some evti87) .nil .nil) .nil))) (.node none (.node none (.node none .nil (.node (some evti99) .nil .nil)) (.node none (.node (some evti83) .nil .nil) .nil)) (.node none .nil (.node (some evti59) .nil .nil)))) (.node none (.node none .nil (.node none (.node (some evti41) .nil .nil) .nil)) (.node none .nil (.node none (.node none (.node (some evti77) .nil .nil) .nil) .nil)))) (.node none (.node (some evti4) (.node none .nil (.node (some evti24) .nil .nil)) (.node none .nil (.node (some evti28) (.node none .nil (.node (some evti108) .nil .nil)) .nil))) (.node none (.node none (.node none (.node (some evti34) .nil .nil) .nil) (.node (some evti26) (.node none (.node (some evti74) .nil .nil) .nil) (.node none (.node (some evti90) .nil .nil) .nil))) (.node none .nil (.node (some evti30) .nil .nil)))))
theorem evttok:TOk Try.prog evtt:=btAll (p:=TIok Try.prog) _ (⟨trivial,⟨trivial,⟨evtiok3,⟨trivial,⟨trivial,⟨evtiok31,trivial,trivial⟩,⟨trivial,⟨evtiok79,trivial,trivial⟩,trivial⟩⟩,⟨evtiok23,trivial,⟨trivial,⟨evtiok87,trivial,trivial⟩,trivial⟩⟩⟩,⟨trivial,⟨trivial,⟨trivial,trivial,⟨evtiok99,trivial,trivial⟩⟩,⟨trivial,⟨evtiok83,trivial,trivial⟩,trivial⟩⟩,⟨trivial,trivial,⟨evtiok59,trivial,trivial⟩⟩⟩⟩,⟨trivial,⟨trivial,trivial,⟨trivial,⟨evtiok41,trivial,trivial⟩,trivial⟩⟩,⟨trivial,trivial,⟨trivial,⟨trivial,⟨evtiok77,trivial,trivial⟩,trivial⟩,trivial⟩⟩⟩⟩,⟨trivial,⟨evtiok4,⟨trivial,trivial,⟨evtiok24,trivial,trivial⟩⟩,⟨trivial,trivial,⟨evtiok28,⟨trivial,trivial,⟨evtiok108,trivial,trivial⟩⟩,trivial⟩⟩⟩,⟨trivial,⟨trivial,⟨trivial,⟨evtiok34,trivial,trivial⟩,trivial⟩,⟨evtiok26,⟨trivial,⟨evtiok74,trivial,trivial⟩,trivial⟩,⟨trivial,⟨evtiok90,trivial,trivial⟩,trivial⟩⟩⟩,⟨trivial,trivial,⟨evtiok30,trivial,trivial⟩⟩⟩⟩⟩)
noncomputable def evft:Bt Func:=(.node none (.node none (.node none (.node (some Try.f7) (.node (some Try.f15) (.node (some Try.f31) (.node (some Try.f63) .nil .nil) .nil) (.node (some Try.f47) .nil .nil)) (.node none (.node (some Try.f39) .nil .nil) .nil)) (.node none (.node none .nil (.node (some Try.f51) .nil .nil)) (.node (some Try.f27) (.node (some Try.f43) .nil .nil) (.node (some Try.f59) .nil .nil)))) (.node none (.node none (.node none (.node none (.node (some Try.f65) .nil .nil) .nil) (.node (some Try.f49) .nil .nil)) (.node none (.node (some Try.f41) .nil .nil) (.node (some Try.f57) .nil .nil))) (.node none (.node none (.node (some Try.f37) .nil .nil) (.node (some Try.f53) .nil .nil)) (.node (some Try.f29) .nil (.node (some Try.f61) .nil .nil))))) (.node none (.node none (.node none (.node none (.node none (.node (some Try.f64) .nil .nil) .nil) (.node (some Try.f48) .nil .nil)) (.node (some Try.f24) (.node (some Try.f40) .nil .nil) .nil)) (.node (some Try.f12) (.node (some Try.f20) (.node (some Try.f36) (.node (some Try.f68) .nil .nil) .nil) (.node (some Try.f52) .nil .nil)) (.node none .nil (.node (some Try.f60) .nil .nil)))) (.node none (.node none (.node none .nil (.node (some Try.f50) .nil .nil)) (.node none (.node (some Try.f42) .nil .nil) (.node (some Try.f58) .nil .nil))) (.node none (.node (some Try.f22) (.node (some Try.f38) .nil .nil) (.node (some Try.f54) .nil .nil)) (.node none .nil (.node (some Try.f62) .nil .nil))))))
theorem evftok:FOk Try.prog evft:=⟨btAll (p:=fun f x => Try.prog.funcs[f]? = some x) evft (⟨trivial,⟨trivial,⟨trivial,⟨Try.func7,⟨Try.func15,⟨Try.func31,⟨Try.func63,trivial,trivial⟩,trivial⟩,⟨Try.func47,trivial,trivial⟩⟩,⟨trivial,⟨Try.func39,trivial,trivial⟩,trivial⟩⟩,⟨trivial,⟨trivial,trivial,⟨Try.func51,trivial,trivial⟩⟩,⟨Try.func27,⟨Try.func43,trivial,trivial⟩,⟨Try.func59,trivial,trivial⟩⟩⟩⟩,⟨trivial,⟨trivial,⟨trivial,⟨trivial,⟨Try.func65,trivial,trivial⟩,trivial⟩,⟨Try.func49,trivial,trivial⟩⟩,⟨trivial,⟨Try.func41,trivial,trivial⟩,⟨Try.func57,trivial,trivial⟩⟩⟩,⟨trivial,⟨trivial,⟨Try.func37,trivial,trivial⟩,⟨Try.func53,trivial,trivial⟩⟩,⟨Try.func29,trivial,⟨Try.func61,trivial,trivial⟩⟩⟩⟩⟩,⟨trivial,⟨trivial,⟨trivial,⟨trivial,⟨trivial,⟨Try.func64,trivial,trivial⟩,trivial⟩,⟨Try.func48,trivial,trivial⟩⟩,⟨Try.func24,⟨Try.func40,trivial,trivial⟩,trivial⟩⟩,⟨Try.func12,⟨Try.func20,⟨Try.func36,⟨Try.func68,trivial,trivial⟩,trivial⟩,⟨Try.func52,trivial,trivial⟩⟩,⟨trivial,trivial,⟨Try.func60,trivial,trivial⟩⟩⟩⟩,⟨trivial,⟨trivial,⟨trivial,trivial,⟨Try.func50,trivial,trivial⟩⟩,⟨trivial,⟨Try.func42,trivial,trivial⟩,⟨Try.func58,trivial,trivial⟩⟩⟩,⟨trivial,⟨Try.func22,⟨Try.func38,trivial,trivial⟩,⟨Try.func54,trivial,trivial⟩⟩,⟨trivial,trivial,⟨Try.func62,trivial,trivial⟩⟩⟩⟩⟩⟩),fun f x h => btAll (p:=fun f _ => ∀ args w,(callFunc f args).run Try.prog w=.ok (.enter f args) w) evft (⟨trivial,⟨trivial,⟨trivial,⟨Try.call7,⟨Try.call15,⟨Try.call31,⟨Try.call63,trivial,trivial⟩,trivial⟩,⟨Try.call47,trivial,trivial⟩⟩,⟨trivial,⟨Try.call39,trivial,trivial⟩,trivial⟩⟩,⟨trivial,⟨trivial,trivial,⟨Try.call51,trivial,trivial⟩⟩,⟨Try.call27,⟨Try.call43,trivial,trivial⟩,⟨Try.call59,trivial,trivial⟩⟩⟩⟩,⟨trivial,⟨trivial,⟨trivial,⟨trivial,⟨Try.call65,trivial,trivial⟩,trivial⟩,⟨Try.call49,trivial,trivial⟩⟩,⟨trivial,⟨Try.call41,trivial,trivial⟩,⟨Try.call57,trivial,trivial⟩⟩⟩,⟨trivial,⟨trivial,⟨Try.call37,trivial,trivial⟩,⟨Try.call53,trivial,trivial⟩⟩,⟨Try.call29,trivial,⟨Try.call61,trivial,trivial⟩⟩⟩⟩⟩,⟨trivial,⟨trivial,⟨trivial,⟨trivial,⟨trivial,⟨Try.call64,trivial,trivial⟩,trivial⟩,⟨Try.call48,trivial,trivial⟩⟩,⟨Try.call24,⟨Try.call40,trivial,trivial⟩,trivial⟩⟩,⟨Try.call12,⟨Try.call20,⟨Try.call36,⟨Try.call68,trivial,trivial⟩,trivial⟩,⟨Try.call52,trivial,trivial⟩⟩,⟨trivial,trivial,⟨Try.call60,trivial,trivial⟩⟩⟩⟩,⟨trivial,⟨trivial,⟨trivial,trivial,⟨Try.call50,trivial,trivial⟩⟩,⟨trivial,⟨Try.call42,trivial,trivial⟩,⟨Try.call58,trivial,trivial⟩⟩⟩,⟨trivial,⟨Try.call22,⟨Try.call38,trivial,trivial⟩,⟨Try.call54,trivial,trivial⟩⟩,⟨trivial,trivial,⟨Try.call62,trivial,trivial⟩⟩⟩⟩⟩⟩) f x h⟩
noncomputable def evpl7_1:Plan:=⟨[0,1,3,0,8,24,0,64,192,448,1023,2047,4095],[⟨6,0,.pure,[2],0,[]⟩,⟨7,0,.pure,[15],0,[]⟩,⟨8,2,.al,[16],0,[]⟩,⟨0,0,.pure,[2],0,[]⟩,⟨1,0,.pure,[9],0,[]⟩,⟨2,0,.pure,[10],0,[]⟩,⟨3,0,.pure,[2],0,[]⟩,⟨4,0,.pure,[12],0,[]⟩,⟨5,0,.pure,[13],0,[]⟩,⟨9,3,.pure,[17],3,[]⟩],[10,11,12],[],[],[]⟩
noncomputable def evpl7_9:Plan:=⟨[0,1,3,7,0,16,48,0,128,384,1023,2047,4095],[⟨0,0,.pure,[8],0,[]⟩,⟨1,0,.pure,[42],0,[]⟩,⟨2,2,.al,[43],0,[]⟩,⟨3,3,.pure,[44],3,[]⟩,⟨4,0,.pure,[8],0,[]⟩,⟨5,0,.pure,[46],0,[]⟩,⟨6,0,.pure,[47],0,[]⟩,⟨7,0,.pure,[8],0,[]⟩,⟨8,0,.pure,[49],0,[]⟩,⟨9,0,.pure,[50],0,[]⟩],[10,11,12],[],[],[]⟩
noncomputable def evpl7_10:Plan:=⟨[0,1,3,7,15,31,63,127,255,127,639,127,2175,7807,15999,32383,65535,131071],[⟨0,0,.pure,[6],0,[]⟩,⟨1,0,.pure,[54],0,[]⟩,⟨2,0,.pure,[55],0,[]⟩,⟨3,0,.pure,[7,56],0,[56]⟩,⟨4,0,.pure,[56,57],0,[56]⟩,⟨5,0,.pure,[56,58],0,[]⟩,⟨6,0,.pure,[59],0,[]⟩,⟨7,0,.pure,[8,60],0,[60]⟩,⟨8,0,.pure,[60,61],0,[60]⟩,⟨9,0,.pure,[2,60],0,[60]⟩,⟨10,0,.pure,[60,63],0,[60]⟩,⟨11,0,.pure,[7,60],0,[60]⟩,⟨12,0,.pure,[60,65],0,[60]⟩,⟨13,0,.pure,[60,64,66],0,[60]⟩,⟨14,0,.pure,[60,67],0,[60]⟩,⟨15,0,.pure,[60,68],0,[60]⟩],[16,17],[],[],[]⟩
noncomputable def evpl7_15:Plan:=⟨[0,1,3,0,8,24,56,127,255,511],[⟨3,0,.pure,[3],0,[]⟩,⟨4,0,.pure,[80],0,[]⟩,⟨5,2,.al,[81],0,[]⟩,⟨0,0,.pure,[3],0,[]⟩,⟨1,0,.pure,[77],0,[]⟩,⟨2,0,.pure,[78],0,[]⟩,⟨6,3,.pure,[82],3,[]⟩],[7,8,9],[],[],[]⟩
noncomputable def evpl12_4:Plan:=⟨[0,0,3,7,0,0,63,127,255,511],[⟨0,0,.pure,[10],0,[]⟩,⟨1,0,.pure,[2],0,[]⟩,⟨2,2,.al,[24,25],0,[]⟩,⟨3,3,.al,[26],3,[]⟩,⟨4,0,.pure,[10],0,[]⟩,⟨5,0,.pure,[3],0,[]⟩],[6,7,8,9],[],[],[]⟩
noncomputable def evpl15_7:Plan:=⟨[0,0,0,6,0,31],[⟨1,0,.pure,[8],0,[]⟩,⟨2,0,.pure,[9],0,[]⟩,⟨3,2,.al,[28,29],0,[]⟩,⟨0,0,.pure,[8],0,[]⟩,⟨4,0,.pure,[2],0,[]⟩],[5],[],[],[]⟩
noncomputable def evpl24_18:Plan:=⟨[0,1,0,4,0,16,0,64,255,0,0,1536,0,7680,16383,32767,65535],[⟨9,0,.pure,[11],0,[]⟩,⟨10,0,.pure,[3],0,[]⟩,⟨11,2,.al,[72,73],0,[]⟩,⟨12,0,.pure,[13],0,[]⟩,⟨13,4,.al,[74,75],3,[]⟩,⟨0,0,.pure,[13],0,[]⟩,⟨1,0,.pure,[63],0,[]⟩,⟨2,0,.pure,[13],0,[]⟩,⟨3,0,.pure,[65],0,[]⟩,⟨4,0,.pure,[13],0,[]⟩,⟨5,0,.pure,[67],0,[]⟩,⟨6,0,.pure,[13],0,[]⟩,⟨7,0,.pure,[69],0,[]⟩,⟨8,0,.pure,[64,66,68,70],0,[]⟩],[14,15,16],[],[],[]⟩
noncomputable def evpl31_9:Plan:=⟨[0,1,3,7,15,31,63,127,255,511,1023,2047,4095,8191,16383,32767,65535,131071,262143,524287,1048575,2097151,4194303,8388607,16777215,33554431,67108863,134217727,268435455,536870911,1073741823,2147483647,2147483647,8589934591,17179869183,34359738367,68719476735,68719476735,274877906943,549755813887,1099511627775,2199023255551,4398046511103,8796093022207,17592186044415,35184372088831,70368744177663,140737488355327,281474976710655,562949953421311,1125899906842623,2251799813685247,4503599627370495,9007199254740991,9007199254740991,36028797018963967,72057594037927935,144115188075855871,288230376151711743,576460752303423487,1152921504606846975,2305843009213693951,4611686018427387903,4611686018427387903,18446744073709551615,36893488147419103231,73786976294838206463,147573952589676412927,295147905179352825855,590295810358705651711,1180591620717411303423],[⟨0,0,.pure,[2],0,[]⟩,⟨1,0,.pure,[74],0,[]⟩,⟨2,0,.pure,[75],0,[]⟩,⟨3,0,.pure,[4,76],0,[76]⟩,⟨4,0,.pure,[76,77],0,[76]⟩,⟨5,0,.pure,[76,78],0,[]⟩,⟨6,0,.pure,[79],0,[]⟩,⟨7,0,.pure,[6,80],0,[80]⟩,⟨8,0,.pure,[80,81],0,[80]⟩,⟨9,0,.pure,[80,82],0,[]⟩,⟨10,0,.pure,[83],0,[]⟩,⟨11,0,.pure,[9,84],0,[84]⟩,⟨12,0,.pure,[84,85],0,[84]⟩,⟨13,0,.pure,[84,86],0,[]⟩,⟨14,0,.pure,[87],0,[]⟩,⟨15,0,.pure,[12,88],0,[88]⟩,⟨16,0,.pure,[88,89],0,[88]⟩,⟨17,0,.pure,[88,90],0,[]⟩,⟨18,0,.pure,[91],0,[]⟩,⟨19,0,.pure,[14,92],0,[92]⟩,⟨20,0,.pure,[92,93],0,[92]⟩,⟨21,0,.pure,[92,94],0,[]⟩,⟨22,0,.pure,[95],0,[]⟩,⟨23,0,.pure,[16,96],0,[96]⟩,⟨24,0,.pure,[96,97],0,[96]⟩,⟨25,0,.pure,[96,98],0,[]⟩,⟨26,0,.pure,[99],0,[]⟩,⟨27,0,.pure,[18,100],0,[100]⟩,⟨28,0,.pure,[100,101],0,[100]⟩,⟨29,0,.pure,[100,102],0,[]⟩,⟨30,0,.pure,[103],0,[]⟩,⟨32,31,.al,[104],0,[104]⟩,⟨31,0,.pure,[1,104],0,[104]⟩,⟨33,32,.pure,[104,105,106],32,[104]⟩,⟨34,32,.pure,[104,107],32,[]⟩,⟨35,32,.pure,[108],32,[]⟩,⟨37,36,.al,[109],32,[109]⟩,⟨36,32,.pure,[3,109],32,[109]⟩,⟨38,38,.al,[109,110,111],37,[109]⟩,⟨39,39,.pure,[109,112],39,[]⟩,⟨40,39,.pure,[113],39,[]⟩,⟨41,39,.pure,[5,114],39,[114]⟩,⟨42,39,.pure,[114,115],39,[114]⟩,⟨43,39,.pure,[114,116],39,[]⟩,⟨44,39,.pure,[117],39,[]⟩,⟨45,39,.pure,[7,118],39,[118]⟩,⟨46,39,.pure,[118,119],39,[118]⟩,⟨47,39,.pure,[118,120],39,[]⟩,⟨48,39,.pure,[121],39,[]⟩,⟨49,39,.pure,[8,122],39,[122]⟩,⟨50,39,.pure,[122,123],39,[122]⟩,⟨51,39,.pure,[122,124],39,[]⟩,⟨52,39,.pure,[125],39,[]⟩,⟨53,39,.pure,[10,126],39,[126]⟩,⟨54,39,.pure,[126],39,[126]⟩,⟨55,39,.pure,[126,127,128],39,[126]⟩,⟨56,39,.pure,[126,129],39,[]⟩,⟨57,39,.pure,[130],39,[]⟩,⟨58,39,.pure,[11,131],39,[131]⟩,⟨59,39,.pure,[131,132],39,[131]⟩,⟨60,39,.pure,[131,133],39,[]⟩,⟨61,39,.pure,[134],39,[]⟩,⟨63,62,.al,[135],39,[135]⟩,⟨62,39,.pure,[13,135],39,[135]⟩],[64,65,66,67,68,69,70],[],[],[]⟩
noncomputable def evpl38_5:Plan:=⟨[0,0,0,0,14,31,63],[⟨1,0,.pure,[10],0,[]⟩,⟨2,0,.pure,[2],0,[]⟩,⟨3,0,.pure,[3],0,[]⟩,⟨4,3,.al,[29,30,31],0,[]⟩,⟨0,0,.pure,[10],0,[]⟩],[5,6],[],[],[]⟩
noncomputable def evpl40_1:Plan:=⟨[0,1,3,0,8,24,0,64,192,0,960,1984,4032,0,8192,24576,0,122880,253952,516096,1048575,2097151],[⟨0,0,.pure,[2],0,[]⟩,⟨1,0,.pure,[5],0,[]⟩,⟨2,0,.pure,[6],0,[]⟩,⟨3,0,.pure,[2],0,[]⟩,⟨4,0,.pure,[8],0,[]⟩,⟨5,0,.pure,[9],0,[]⟩,⟨6,0,.pure,[2],0,[]⟩,⟨7,0,.pure,[11],0,[]⟩,⟨8,0,.pure,[12],0,[]⟩,⟨9,0,.pure,[1],0,[]⟩,⟨10,0,.pure,[13,14],0,[]⟩,⟨11,0,.pure,[15],0,[]⟩,⟨12,0,.pure,[16],0,[]⟩,⟨13,0,.pure,[2],0,[]⟩,⟨14,0,.pure,[18],0,[]⟩,⟨15,0,.pure,[19],0,[]⟩,⟨16,0,.pure,[1],0,[]⟩,⟨17,0,.pure,[20,21],0,[]⟩,⟨18,0,.pure,[22],0,[]⟩,⟨19,0,.pure,[23],0,[]⟩],[20,21],[],[],[]⟩
noncomputable def evpl43_1:Plan:=⟨[0,1,0,0,15,31,0,127],[⟨0,0,.pure,[4],0,[]⟩,⟨1,1,.al,[8],0,[]⟩,⟨2,0,.pure,[3],0,[]⟩,⟨3,0,.pure,[2],0,[]⟩,⟨4,4,.al,[10,11],2,[]⟩,⟨5,5,.al,[9,12],5,[]⟩,⟨6,6,.bare,[],0,[]⟩],[7],[],[],[]⟩
noncomputable def evpl48_1:Plan:=⟨[0,1,0,4,0,16,60,0,255,511],[⟨2,0,.pure,[2],0,[]⟩,⟨3,0,.pure,[7],0,[]⟩,⟨4,0,.pure,[2],0,[]⟩,⟨5,0,.pure,[9],0,[]⟩,⟨6,4,.al,[8,10],0,[]⟩,⟨0,0,.pure,[2],0,[]⟩,⟨1,0,.pure,[5],0,[]⟩,⟨7,0,.pure,[1],0,[]⟩],[8,9],[],[],[]⟩
noncomputable def evpl50_7:Plan:=⟨[0,1,0,4,15,0,32,0,128,480,127,1151,4095,8191],[⟨0,0,.pure,[8],0,[]⟩,⟨1,0,.pure,[30],0,[]⟩,⟨2,0,.pure,[11],0,[]⟩,⟨3,0,.pure,[32],0,[]⟩,⟨4,0,.pure,[31,33],0,[]⟩,⟨5,0,.pure,[8],0,[]⟩,⟨6,0,.pure,[35],0,[]⟩,⟨10,0,.pure,[8],0,[]⟩],[11,12,13],[(7,[11],[]),(8,[37],[]),(9,[36,38],[])],[40,8],[0,1,2,3,4,6,7,8,10,11,12,13,14,15,16,17,18,19,20,21,22,23,24,25,26,27,28,29,34,40,42,43,44,45,46,47,48,49,50,51,52,53,54,55,56,57,58,59,60,61,62,63,64,65]⟩
noncomputable def evpl50_9:Plan:=⟨[0,1,3,0,8,24,63,127,255,0,1023],[⟨3,0,.pure,[8],0,[]⟩,⟨4,0,.pure,[46],0,[]⟩,⟨5,2,.al,[47],0,[]⟩,⟨0,0,.pure,[3],0,[]⟩,⟨1,0,.pure,[43],0,[]⟩,⟨2,0,.pure,[44],0,[]⟩,⟨6,3,.pure,[45,48],3,[]⟩,⟨7,7,.al,[49],3,[]⟩,⟨8,8,.al,[50],8,[]⟩,⟨9,9,.bare,[],0,[]⟩],[10],[],[],[]⟩
noncomputable def evpl50_10:Plan:=⟨[0,1,3,0,8,24,63,127,255,0,1023],[⟨3,0,.pure,[8],0,[]⟩,⟨4,0,.pure,[55],0,[]⟩,⟨5,2,.al,[56],0,[]⟩,⟨0,0,.pure,[3],0,[]⟩,⟨1,0,.pure,[52],0,[]⟩,⟨2,0,.pure,[53],0,[]⟩,⟨6,3,.pure,[54,57],3,[]⟩,⟨7,7,.al,[58],3,[]⟩,⟨8,8,.al,[59],8,[]⟩,⟨9,9,.bare,[],0,[]⟩],[10],[],[],[]⟩
noncomputable def evpl54_5:Plan:=⟨[0,0,3,7,0,0,48,112,255,511],[⟨0,0,.pure,[0],0,[]⟩,⟨1,0,.pure,[6],0,[]⟩,⟨2,0,.pure,[21,22],0,[]⟩,⟨3,0,.pure,[23],0,[]⟩,⟨4,0,.pure,[1],0,[]⟩,⟨5,0,.pure,[6],0,[]⟩,⟨6,0,.pure,[25,26],0,[]⟩,⟨7,0,.pure,[27],0,[]⟩],[8,9],[],[],[]⟩
noncomputable def evpl:Bt (Bt Plan):=(.node none (.node none (.node none (.node (some (.node none (.node (some evpl7_1) (.node none (.node none (.node (some evpl7_15) .nil .nil) .nil) .nil) (.node none (.node (some evpl7_9) .nil .nil) .nil)) (.node none .nil (.node none (.node (some evpl7_10) .nil .nil) .nil)))) (.node (some (.node none (.node none (.node none (.node (some evpl15_7) .nil .nil) .nil) .nil) .nil)) (.node (some (.node none (.node none .nil (.node none (.node (some evpl31_9) .nil .nil) .nil)) .nil)) .nil .nil) .nil) .nil) (.node none .nil (.node none (.node (some (.node none (.node (some evpl43_1) .nil .nil) .nil)) .nil .nil) .nil))) .nil) (.node none (.node none (.node none (.node none .nil (.node (some (.node none (.node (some evpl48_1) .nil .nil) .nil)) .nil .nil)) (.node (some (.node none .nil (.node none .nil (.node none (.node none (.node (some evpl24_18) .nil .nil) .nil) .nil)))) (.node (some (.node none (.node (some evpl40_1) .nil .nil) .nil)) .nil .nil) .nil)) (.node (some (.node none .nil (.node none (.node (some evpl12_4) .nil .nil) .nil))) .nil .nil)) (.node none (.node none (.node none .nil (.node (some (.node none (.node none (.node none (.node (some evpl50_7) .nil .nil) .nil) (.node none (.node (some evpl50_9) .nil .nil) .nil)) (.node none .nil (.node none (.node (some evpl50_10) .nil .nil) .nil)))) .nil .nil)) .nil) (.node none (.node none (.node (some (.node none (.node none .nil (.node (some evpl38_5) .nil .nil)) .nil)) .nil .nil) (.node (some (.node none (.node none .nil (.node (some evpl54_5) .nil .nil)) .nil)) .nil .nil)) .nil))))
theorem evmix:Try.prog.follows .mixedOrders=true:=by kernel_rfl
end Go.Proofs.Orl

namespace Go.Proofs.Orl
open Go
set_option maxRecDepth 100000
set_option maxHeartbeats 4000000
def oe0:OE:=⟨12,[.agg #[.int .i64 (.ofNat 20),.int .i64 (.ofNat 25),.int .i64 (.ofNat 6000),.int .i64 (.ofNat 12000),.int .i64 (.ofNat 50),.slice (some ⟨0,0,none⟩) 2 5],.agg #[.int .i64 (.ofNat 300),.int .i64 (.ofNat 310),.int .i64 (.ofNat 5)],.int .i64 (.ofNat 0),.int .i64 (.ofNat 4)],1,[some [.int .i64 (.ofNat 3),.int .i64 (.ofNat 500),.int .i64 (.ofNat 520),.int .i64 (.negSucc 9),.int .i64 (.ofNat 20),.int .i64 (.ofNat 17),.int .i64 (.ofNat 560),.int .i64 (.ofNat 590),.int .i64 (.negSucc 9),.int .i64 (.ofNat 20)]],.tuple #[.agg #[.int .i64 (.ofNat 6400),.int .i64 (.ofNat 11000)],.int .i64 (.ofNat 0)]⟩
theorem oeok0:OEok Try.prog oe0:=oe_run (pl:=evpl) (orc:=orcL []) (orcL_ok (oes trivial)) evttok evftok evmix 1000 oe0 (.node (some (.row [.int .i64 (.ofNat 3),.int .i64 (.ofNat 500),.int .i64 (.ofNat 520),.int .i64 (.negSucc 9),.int .i64 (.ofNat 20),.int .i64 (.ofNat 17),.int .i64 (.ofNat 560),.int .i64 (.ofNat 590),.int .i64 (.negSucc 9),.int .i64 (.ofNat 20)])) .nil .nil) rfl rfl rfl ⟨⟨_,rfl,rfl⟩,trivial,trivial⟩ (by kernel_rfl)
def oe1:OE:=⟨43,[.agg #[.int .i64 (.ofNat 20),.int .i64 (.ofNat 25),.int .i64 (.ofNat 6000),.int .i64 (.ofNat 12000),.int .i64 (.ofNat 50),.slice (some ⟨0,0,none⟩) 2 5,.int .i64 (.ofNat 300),.int .i64 (.ofNat 310),.int .i64 (.ofNat 5)],.agg #[.int .i64 (.ofNat 20),.int .i64 (.ofNat 25),.int .i64 (.ofNat 300),.int .i64 (.ofNat 310),.int .i64 (.ofNat 500),.int .i64 (.ofNat 520),.int .i64 (.negSucc 9),.int .i64 (.ofNat 20)],.int .i64 (.ofNat 14)],1,[],.bool false⟩
theorem oeok1:OEok Try.prog oe1:=oe_run (pl:=evpl) (orc:=orcL [oe0]) (orcL_ok (oes ⟨oeok0,trivial⟩)) evttok evftok evmix 1000 oe1 .nil rfl rfl rfl trivial (by kernel_rfl)
def oe2:OE:=⟨43,[.agg #[.int .i64 (.ofNat 20),.int .i64 (.ofNat 25),.int .i64 (.ofNat 6000),.int .i64 (.ofNat 12000),.int .i64 (.ofNat 50),.slice (some ⟨0,0,none⟩) 2 5,.int .i64 (.ofNat 300),.int .i64 (.ofNat 310),.int .i64 (.ofNat 5)],.agg #[.int .i64 (.ofNat 20),.int .i64 (.ofNat 25),.int .i64 (.ofNat 300),.int .i64 (.ofNat 310),.int .i64 (.ofNat 560),.int .i64 (.ofNat 590),.int .i64 (.negSucc 9),.int .i64 (.ofNat 20)],.int .i64 (.ofNat 14)],1,[],.bool true⟩
theorem oeok2:OEok Try.prog oe2:=oe_run (pl:=evpl) (orc:=orcL [oe0,oe1]) (orcL_ok (oes ⟨oeok0,oeok1,trivial⟩)) evttok evftok evmix 1000 oe2 .nil rfl rfl rfl trivial (by kernel_rfl)
def oe3:OE:=⟨43,[.agg #[.int .i64 (.ofNat 20),.int .i64 (.ofNat 25),.int .i64 (.ofNat 6000),.int .i64 (.ofNat 12000),.int .i64 (.ofNat 50),.slice (some ⟨0,0,none⟩) 2 5,.int .i64 (.ofNat 300),.int .i64 (.ofNat 310),.int .i64 (.ofNat 5)],.agg #[.int .i64 (.ofNat 20),.int .i64 (.ofNat 25),.int .i64 (.ofNat 300),.int .i64 (.ofNat 310),.int .i64 (.ofNat 560),.int .i64 (.ofNat 590),.int .i64 (.negSucc 9),.int .i64 (.ofNat 20)],.int .i64 (.ofNat 0)],1,[],.bool false⟩
theorem oeok3:OEok Try.prog oe3:=oe_run (pl:=evpl) (orc:=orcL [oe0,oe1,oe2]) (orcL_ok (oes ⟨oeok0,oeok1,oeok2,trivial⟩)) evttok evftok evmix 1000 oe3 .nil rfl rfl rfl trivial (by kernel_rfl)
def oe4:OE:=⟨43,[.agg #[.int .i64 (.ofNat 20),.int .i64 (.ofNat 25),.int .i64 (.ofNat 6000),.int .i64 (.ofNat 12000),.int .i64 (.ofNat 50),.slice (some ⟨0,0,none⟩) 2 5,.int .i64 (.ofNat 300),.int .i64 (.ofNat 310),.int .i64 (.ofNat 5)],.agg #[.int .i64 (.ofNat 20),.int .i64 (.ofNat 25),.int .i64 (.ofNat 300),.int .i64 (.ofNat 310),.int .i64 (.ofNat 560),.int .i64 (.ofNat 590),.int .i64 (.negSucc 9),.int .i64 (.ofNat 20)],.int .i64 (.ofNat 1)],1,[],.bool false⟩
theorem oeok4:OEok Try.prog oe4:=oe_run (pl:=evpl) (orc:=orcL [oe0,oe1,oe2,oe3]) (orcL_ok (oes ⟨oeok0,oeok1,oeok2,oeok3,trivial⟩)) evttok evftok evmix 1000 oe4 .nil rfl rfl rfl trivial (by kernel_rfl)
def oe5:OE:=⟨43,[.agg #[.int .i64 (.ofNat 20),.int .i64 (.ofNat 25),.int .i64 (.ofNat 6000),.int .i64 (.ofNat 12000),.int .i64 (.ofNat 50),.slice (some ⟨0,0,none⟩) 2 5,.int .i64 (.ofNat 300),.int .i64 (.ofNat 310),.int .i64 (.ofNat 5)],.agg #[.int .i64 (.ofNat 20),.int .i64 (.ofNat 25),.int .i64 (.ofNat 300),.int .i64 (.ofNat 310),.int .i64 (.ofNat 560),.int .i64 (.ofNat 590),.int .i64 (.negSucc 9),.int .i64 (.ofNat 20)],.int .i64 (.ofNat 2)],1,[],.bool false⟩
theorem oeok5:OEok Try.prog oe5:=oe_run (pl:=evpl) (orc:=orcL [oe0,oe1,oe2,oe3,oe4]) (orcL_ok (oes ⟨oeok0,oeok1,oeok2,oeok3,oeok4,trivial⟩)) evttok evftok evmix 1000 oe5 .nil rfl rfl rfl trivial (by kernel_rfl)
end Go.Proofs.Orl

namespace Go.Proofs.Orl
open Go
set_option maxRecDepth 100000
set_option maxHeartbeats 4000000
def oe6:OE:=⟨43,[.agg #[.int .i64 (.ofNat 20),.int .i64 (.ofNat 25),.int .i64 (.ofNat 6000),.int .i64 (.ofNat 12000),.int .i64 (.ofNat 50),.slice (some ⟨0,0,none⟩) 2 5,.int .i64 (.ofNat 300),.int .i64 (.ofNat 310),.int .i64 (.ofNat 5)],.agg #[.int .i64 (.ofNat 20),.int .i64 (.ofNat 25),.int .i64 (.ofNat 300),.int .i64 (.ofNat 310),.int .i64 (.ofNat 560),.int .i64 (.ofNat 590),.int .i64 (.negSucc 9),.int .i64 (.ofNat 20)],.int .i64 (.ofNat 3)],1,[],.bool false⟩
theorem oeok6:OEok Try.prog oe6:=oe_run (pl:=evpl) (orc:=orcL [oe0,oe1,oe2,oe3,oe4,oe5]) (orcL_ok (oes ⟨oeok0,oeok1,oeok2,oeok3,oeok4,oeok5,trivial⟩)) evttok evftok evmix 1000 oe6 .nil rfl rfl rfl trivial (by kernel_rfl)
def oe7:OE:=⟨43,[.agg #[.int .i64 (.ofNat 20),.int .i64 (.ofNat 25),.int .i64 (.ofNat 6000),.int .i64 (.ofNat 12000),.int .i64 (.ofNat 50),.slice (some ⟨0,0,none⟩) 2 5,.int .i64 (.ofNat 300),.int .i64 (.ofNat 310),.int .i64 (.ofNat 5)],.agg #[.int .i64 (.ofNat 20),.int .i64 (.ofNat 25),.int .i64 (.ofNat 300),.int .i64 (.ofNat 310),.int .i64 (.ofNat 560),.int .i64 (.ofNat 590),.int .i64 (.negSucc 9),.int .i64 (.ofNat 20)],.int .i64 (.ofNat 4)],1,[],.bool false⟩
theorem oeok7:OEok Try.prog oe7:=oe_run (pl:=evpl) (orc:=orcL [oe0,oe1,oe2,oe3,oe4,oe5,oe6]) (orcL_ok (oes ⟨oeok0,oeok1,oeok2,oeok3,oeok4,oeok5,oeok6,trivial⟩)) evttok evftok evmix 1000 oe7 .nil rfl rfl rfl trivial (by kernel_rfl)
def oe8:OE:=⟨43,[.agg #[.int .i64 (.ofNat 20),.int .i64 (.ofNat 25),.int .i64 (.ofNat 6000),.int .i64 (.ofNat 12000),.int .i64 (.ofNat 50),.slice (some ⟨0,0,none⟩) 2 5,.int .i64 (.ofNat 300),.int .i64 (.ofNat 310),.int .i64 (.ofNat 5)],.agg #[.int .i64 (.ofNat 20),.int .i64 (.ofNat 25),.int .i64 (.ofNat 300),.int .i64 (.ofNat 310),.int .i64 (.ofNat 560),.int .i64 (.ofNat 590),.int .i64 (.negSucc 9),.int .i64 (.ofNat 20)],.int .i64 (.ofNat 5)],1,[],.bool false⟩
theorem oeok8:OEok Try.prog oe8:=oe_run (pl:=evpl) (orc:=orcL [oe0,oe1,oe2,oe3,oe4,oe5,oe6,oe7]) (orcL_ok (oes ⟨oeok0,oeok1,oeok2,oeok3,oeok4,oeok5,oeok6,oeok7,trivial⟩)) evttok evftok evmix 1000 oe8 .nil rfl rfl rfl trivial (by kernel_rfl)
def oe9:OE:=⟨43,[.agg #[.int .i64 (.ofNat 20),.int .i64 (.ofNat 25),.int .i64 (.ofNat 6000),.int .i64 (.ofNat 12000),.int .i64 (.ofNat 50),.slice (some ⟨0,0,none⟩) 2 5,.int .i64 (.ofNat 300),.int .i64 (.ofNat 310),.int .i64 (.ofNat 5)],.agg #[.int .i64 (.ofNat 20),.int .i64 (.ofNat 25),.int .i64 (.ofNat 300),.int .i64 (.ofNat 310),.int .i64 (.ofNat 560),.int .i64 (.ofNat 590),.int .i64 (.negSucc 9),.int .i64 (.ofNat 20)],.int .i64 (.ofNat 6)],1,[],.bool false⟩
theorem oeok9:OEok Try.prog oe9:=oe_run (pl:=evpl) (orc:=orcL [oe0,oe1,oe2,oe3,oe4,oe5,oe6,oe7,oe8]) (orcL_ok (oes ⟨oeok0,oeok1,oeok2,oeok3,oeok4,oeok5,oeok6,oeok7,oeok8,trivial⟩)) evttok evftok evmix 1000 oe9 .nil rfl rfl rfl trivial (by kernel_rfl)
def oe10:OE:=⟨43,[.agg #[.int .i64 (.ofNat 20),.int .i64 (.ofNat 25),.int .i64 (.ofNat 6000),.int .i64 (.ofNat 12000),.int .i64 (.ofNat 50),.slice (some ⟨0,0,none⟩) 2 5,.int .i64 (.ofNat 300),.int .i64 (.ofNat 310),.int .i64 (.ofNat 5)],.agg #[.int .i64 (.ofNat 20),.int .i64 (.ofNat 25),.int .i64 (.ofNat 300),.int .i64 (.ofNat 310),.int .i64 (.ofNat 560),.int .i64 (.ofNat 590),.int .i64 (.negSucc 9),.int .i64 (.ofNat 20)],.int .i64 (.ofNat 7)],1,[],.bool false⟩
theorem oeok10:OEok Try.prog oe10:=oe_run (pl:=evpl) (orc:=orcL [oe0,oe1,oe2,oe3,oe4,oe5,oe6,oe7,oe8,oe9]) (orcL_ok (oes ⟨oeok0,oeok1,oeok2,oeok3,oeok4,oeok5,oeok6,oeok7,oeok8,oeok9,trivial⟩)) evttok evftok evmix 1000 oe10 .nil rfl rfl rfl trivial (by kernel_rfl)
def oe11:OE:=⟨43,[.agg #[.int .i64 (.ofNat 20),.int .i64 (.ofNat 25),.int .i64 (.ofNat 6000),.int .i64 (.ofNat 12000),.int .i64 (.ofNat 50),.slice (some ⟨0,0,none⟩) 2 5,.int .i64 (.ofNat 300),.int .i64 (.ofNat 310),.int .i64 (.ofNat 5)],.agg #[.int .i64 (.ofNat 20),.int .i64 (.ofNat 25),.int .i64 (.ofNat 300),.int .i64 (.ofNat 310),.int .i64 (.ofNat 560),.int .i64 (.ofNat 590),.int .i64 (.negSucc 9),.int .i64 (.ofNat 20)],.int .i64 (.ofNat 8)],1,[],.bool false⟩
theorem oeok11:OEok Try.prog oe11:=oe_run (pl:=evpl) (orc:=orcL [oe0,oe1,oe2,oe3,oe4,oe5,oe6,oe7,oe8,oe9,oe10]) (orcL_ok (oes ⟨oeok0,oeok1,oeok2,oeok3,oeok4,oeok5,oeok6,oeok7,oeok8,oeok9,oeok10,trivial⟩)) evttok evftok evmix 1000 oe11 .nil rfl rfl rfl trivial (by kernel_rfl)
end Go.Proofs.Orl

namespace Go.Proofs.Orl
open Go
set_option maxRecDepth 100000
set_option maxHeartbeats 4000000
def oe12:OE:=⟨43,[.agg #[.int .i64 (.ofNat 20),.int .i64 (.ofNat 25),.int .i64 (.ofNat 6000),.int .i64 (.ofNat 12000),.int .i64 (.ofNat 50),.slice (some ⟨0,0,none⟩) 2 5,.int .i64 (.ofNat 300),.int .i64 (.ofNat 310),.int .i64 (.ofNat 5)],.agg #[.int .i64 (.ofNat 20),.int .i64 (.ofNat 25),.int .i64 (.ofNat 300),.int .i64 (.ofNat 310),.int .i64 (.ofNat 560),.int .i64 (.ofNat 590),.int .i64 (.negSucc 9),.int .i64 (.ofNat 20)],.int .i64 (.ofNat 9)],1,[],.bool false⟩
theorem oeok12:OEok Try.prog oe12:=oe_run (pl:=evpl) (orc:=orcL [oe0,oe1,oe2,oe3,oe4,oe5,oe6,oe7,oe8,oe9,oe10,oe11]) (orcL_ok (oes ⟨oeok0,oeok1,oeok2,oeok3,oeok4,oeok5,oeok6,oeok7,oeok8,oeok9,oeok10,oeok11,trivial⟩)) evttok evftok evmix 1000 oe12 .nil rfl rfl rfl trivial (by kernel_rfl)
def oe13:OE:=⟨43,[.agg #[.int .i64 (.ofNat 20),.int .i64 (.ofNat 25),.int .i64 (.ofNat 6000),.int .i64 (.ofNat 12000),.int .i64 (.ofNat 50),.slice (some ⟨0,0,none⟩) 2 5,.int .i64 (.ofNat 300),.int .i64 (.ofNat 310),.int .i64 (.ofNat 5)],.agg #[.int .i64 (.ofNat 20),.int .i64 (.ofNat 25),.int .i64 (.ofNat 300),.int .i64 (.ofNat 310),.int .i64 (.ofNat 560),.int .i64 (.ofNat 590),.int .i64 (.negSucc 9),.int .i64 (.ofNat 20)],.int .i64 (.ofNat 10)],1,[],.bool false⟩
theorem oeok13:OEok Try.prog oe13:=oe_run (pl:=evpl) (orc:=orcL [oe0,oe1,oe2,oe3,oe4,oe5,oe6,oe7,oe8,oe9,oe10,oe11,oe12]) (orcL_ok (oes ⟨oeok0,oeok1,oeok2,oeok3,oeok4,oeok5,oeok6,oeok7,oeok8,oeok9,oeok10,oeok11,oeok12,trivial⟩)) evttok evftok evmix 1000 oe13 .nil rfl rfl rfl trivial (by kernel_rfl)
def oe14:OE:=⟨43,[.agg #[.int .i64 (.ofNat 20),.int .i64 (.ofNat 25),.int .i64 (.ofNat 6000),.int .i64 (.ofNat 12000),.int .i64 (.ofNat 50),.slice (some ⟨0,0,none⟩) 2 5,.int .i64 (.ofNat 300),.int .i64 (.ofNat 310),.int .i64 (.ofNat 5)],.agg #[.int .i64 (.ofNat 20),.int .i64 (.ofNat 25),.int .i64 (.ofNat 300),.int .i64 (.ofNat 310),.int .i64 (.ofNat 560),.int .i64 (.ofNat 590),.int .i64 (.negSucc 9),.int .i64 (.ofNat 20)],.int .i64 (.ofNat 11)],1,[],.bool false⟩
theorem oeok14:OEok Try.prog oe14:=oe_run (pl:=evpl) (orc:=orcL [oe0,oe1,oe2,oe3,oe4,oe5,oe6,oe7,oe8,oe9,oe10,oe11,oe12,oe13]) (orcL_ok (oes ⟨oeok0,oeok1,oeok2,oeok3,oeok4,oeok5,oeok6,oeok7,oeok8,oeok9,oeok10,oeok11,oeok12,oeok13,trivial⟩)) evttok evftok evmix 1000 oe14 .nil rfl rfl rfl trivial (by kernel_rfl)
def oe15:OE:=⟨43,[.agg #[.int .i64 (.ofNat 20),.int .i64 (.ofNat 25),.int .i64 (.ofNat 6000),.int .i64 (.ofNat 12000),.int .i64 (.ofNat 50),.slice (some ⟨0,0,none⟩) 2 5,.int .i64 (.ofNat 300),.int .i64 (.ofNat 310),.int .i64 (.ofNat 5)],.agg #[.int .i64 (.ofNat 20),.int .i64 (.ofNat 25),.int .i64 (.ofNat 300),.int .i64 (.ofNat 310),.int .i64 (.ofNat 560),.int .i64 (.ofNat 590),.int .i64 (.negSucc 9),.int .i64 (.ofNat 20)],.int .i64 (.ofNat 12)],1,[],.bool false⟩
theorem oeok15:OEok Try.prog oe15:=oe_run (pl:=evpl) (orc:=orcL [oe0,oe1,oe2,oe3,oe4,oe5,oe6,oe7,oe8,oe9,oe10,oe11,oe12,oe13,oe14]) (orcL_ok (oes ⟨oeok0,oeok1,oeok2,oeok3,oeok4,oeok5,oeok6,oeok7,oeok8,oeok9,oeok10,oeok11,oeok12,oeok13,oeok14,trivial⟩)) evttok evftok evmix 1000 oe15 .nil rfl rfl rfl trivial (by kernel_rfl)
def oe16:OE:=⟨43,[.agg #[.int .i64 (.ofNat 20),.int .i64 (.ofNat 25),.int .i64 (.ofNat 6000),.int .i64 (.ofNat 12000),.int .i64 (.ofNat 50),.slice (some ⟨0,0,none⟩) 2 5,.int .i64 (.ofNat 300),.int .i64 (.ofNat 310),.int .i64 (.ofNat 5)],.agg #[.int .i64 (.ofNat 20),.int .i64 (.ofNat 25),.int .i64 (.ofNat 300),.int .i64 (.ofNat 310),.int .i64 (.ofNat 560),.int .i64 (.ofNat 590),.int .i64 (.negSucc 9),.int .i64 (.ofNat 20)],.int .i64 (.ofNat 13)],1,[],.bool false⟩
theorem oeok16:OEok Try.prog oe16:=oe_run (pl:=evpl) (orc:=orcL [oe0,oe1,oe2,oe3,oe4,oe5,oe6,oe7,oe8,oe9,oe10,oe11,oe12,oe13,oe14,oe15]) (orcL_ok (oes ⟨oeok0,oeok1,oeok2,oeok3,oeok4,oeok5,oeok6,oeok7,oeok8,oeok9,oeok10,oeok11,oeok12,oeok13,oeok14,oeok15,trivial⟩)) evttok evftok evmix 1000 oe16 .nil rfl rfl rfl trivial (by kernel_rfl)
def oe17:OE:=⟨20,[.agg #[.int .i64 (.ofNat 20),.int .i64 (.ofNat 25),.int .i64 (.ofNat 6000),.int .i64 (.ofNat 12000),.int .i64 (.ofNat 50),.slice (some ⟨0,0,none⟩) 2 5],.agg #[.int .i64 (.ofNat 300),.int .i64 (.ofNat 310),.int .i64 (.ofNat 5)],.int .i64 (.ofNat 1)],1,[some [.int .i64 (.ofNat 3),.int .i64 (.ofNat 500),.int .i64 (.ofNat 520),.int .i64 (.negSucc 9),.int .i64 (.ofNat 20),.int .i64 (.ofNat 17),.int .i64 (.ofNat 560),.int .i64 (.ofNat 590),.int .i64 (.negSucc 9),.int .i64 (.ofNat 20)]],.tuple #[.int .i64 (.ofNat 14),.int .i64 (.ofNat 0)]⟩
theorem oeok17:OEok Try.prog oe17:=oe_run (pl:=evpl) (orc:=orcL [oe0,oe1,oe2,oe3,oe4,oe5,oe6,oe7,oe8,oe9,oe10,oe11,oe12,oe13,oe14,oe15,oe16]) (orcL_ok (oes ⟨oeok0,oeok1,oeok2,oeok3,oeok4,oeok5,oeok6,oeok7,oeok8,oeok9,oeok10,oeok11,oeok12,oeok13,oeok14,oeok15,oeok16,trivial⟩)) evttok evftok evmix 1000 oe17 (.node (some (.row [.int .i64 (.ofNat 3),.int .i64 (.ofNat 500),.int .i64 (.ofNat 520),.int .i64 (.negSucc 9),.int .i64 (.ofNat 20),.int .i64 (.ofNat 17),.int .i64 (.ofNat 560),.int .i64 (.ofNat 590),.int .i64 (.negSucc 9),.int .i64 (.ofNat 20)])) .nil .nil) rfl rfl rfl ⟨⟨_,rfl,rfl⟩,trivial,trivial⟩ (by kernel_rfl)
def oe18:OE:=⟨22,[.agg #[.int .i64 (.ofNat 20),.int .i64 (.ofNat 25),.int .i64 (.ofNat 6000),.int .i64 (.ofNat 12000),.int .i64 (.ofNat 50),.slice (some ⟨0,0,none⟩) 2 5],.agg #[.int .i64 (.ofNat 300),.int .i64 (.ofNat 310),.int .i64 (.ofNat 5)],.int .i64 (.ofNat 4)],1,[some [.int .i64 (.ofNat 3),.int .i64 (.ofNat 500),.int .i64 (.ofNat 520),.int .i64 (.negSucc 9),.int .i64 (.ofNat 20),.int .i64 (.ofNat 17),.int .i64 (.ofNat 560),.int .i64 (.ofNat 590),.int .i64 (.negSucc 9),.int .i64 (.ofNat 20)]],.tuple #[.int .i64 (.ofNat 1),.int .i64 (.ofNat 14),.int .i64 (.ofNat 0)]⟩
theorem oeok18:OEok Try.prog oe18:=oe_run (pl:=evpl) (orc:=orcL [oe0,oe1,oe2,oe3,oe4,oe5,oe6,oe7,oe8,oe9,oe10,oe11,oe12,oe13,oe14,oe15,oe16,oe17]) (orcL_ok (oes ⟨oeok0,oeok1,oeok2,oeok3,oeok4,oeok5,oeok6,oeok7,oeok8,oeok9,oeok10,oeok11,oeok12,oeok13,oeok14,oeok15,oeok16,oeok17,trivial⟩)) evttok evftok evmix 1000 oe18 (.node (some (.row [.int .i64 (.ofNat 3),.int .i64 (.ofNat 500),.int .i64 (.ofNat 520),.int .i64 (.negSucc 9),.int .i64 (.ofNat 20),.int .i64 (.ofNat 17),.int .i64 (.ofNat 560),.int .i64 (.ofNat 590),.int .i64 (.negSucc 9),.int .i64 (.ofNat 20)])) .nil .nil) rfl rfl rfl ⟨⟨_,rfl,rfl⟩,trivial,trivial⟩ (by kernel_rfl)
end Go.Proofs.Orl

namespace Go.Proofs.Orl
open Go
set_option maxRecDepth 100000
set_option maxHeartbeats 4000000
def oe19:OE:=⟨43,[.agg #[.int .i64 (.ofNat 20),.int .i64 (.ofNat 25),.int .i64 (.ofNat 6000),.int .i64 (.ofNat 12000),.int .i64 (.ofNat 50),.slice (some ⟨0,0,none⟩) 2 5,.int .i64 (.ofNat 300),.int .i64 (.ofNat 310),.int .i64 (.ofNat 5)],.agg #[.int .i64 (.ofNat 20),.int .i64 (.ofNat 25),.int .i64 (.ofNat 300),.int .i64 (.ofNat 310),.int .i64 (.ofNat 500),.int .i64 (.ofNat 520),.int .i64 (.negSucc 9),.int .i64 (.ofNat 20)],.int .i64 (.ofNat 7)],1,[],.bool false⟩
theorem oeok19:OEok Try.prog oe19:=oe_run (pl:=evpl) (orc:=orcL [oe0,oe1,oe2,oe3,oe4,oe5,oe6,oe7,oe8,oe9,oe10,oe11,oe12,oe13,oe14,oe15,oe16,oe17,oe18]) (orcL_ok (oes ⟨oeok0,oeok1,oeok2,oeok3,oeok4,oeok5,oeok6,oeok7,oeok8,oeok9,oeok10,oeok11,oeok12,oeok13,oeok14,oeok15,oeok16,oeok17,oeok18,trivial⟩)) evttok evftok evmix 1000 oe19 .nil rfl rfl rfl trivial (by kernel_rfl)
def oe20:OE:=⟨43,[.agg #[.int .i64 (.ofNat 20),.int .i64 (.ofNat 25),.int .i64 (.ofNat 6000),.int .i64 (.ofNat 12000),.int .i64 (.ofNat 50),.slice (some ⟨0,0,none⟩) 2 5,.int .i64 (.ofNat 300),.int .i64 (.ofNat 310),.int .i64 (.ofNat 5)],.agg #[.int .i64 (.ofNat 20),.int .i64 (.ofNat 20),.int .i64 (.ofNat 300),.int .i64 (.ofNat 310),.int .i64 (.ofNat 500),.int .i64 (.ofNat 520),.int .i64 (.negSucc 9),.int .i64 (.ofNat 20)],.int .i64 (.ofNat 7)],1,[],.bool true⟩
theorem oeok20:OEok Try.prog oe20:=oe_run (pl:=evpl) (orc:=orcL [oe0,oe1,oe2,oe3,oe4,oe5,oe6,oe7,oe8,oe9,oe10,oe11,oe12,oe13,oe14,oe15,oe16,oe17,oe18,oe19]) (orcL_ok (oes ⟨oeok0,oeok1,oeok2,oeok3,oeok4,oeok5,oeok6,oeok7,oeok8,oeok9,oeok10,oeok11,oeok12,oeok13,oeok14,oeok15,oeok16,oeok17,oeok18,oeok19,trivial⟩)) evttok evftok evmix 1000 oe20 .nil rfl rfl rfl trivial (by kernel_rfl)
def oe21:OE:=⟨43,[.agg #[.int .i64 (.ofNat 20),.int .i64 (.ofNat 25),.int .i64 (.ofNat 6000),.int .i64 (.ofNat 12000),.int .i64 (.ofNat 50),.slice (some ⟨0,0,none⟩) 2 5,.int .i64 (.ofNat 300),.int .i64 (.ofNat 310),.int .i64 (.ofNat 5)],.agg #[.int .i64 (.ofNat 21),.int .i64 (.ofNat 21),.int .i64 (.ofNat 300),.int .i64 (.ofNat 310),.int .i64 (.ofNat 500),.int .i64 (.ofNat 520),.int .i64 (.negSucc 9),.int .i64 (.ofNat 20)],.int .i64 (.ofNat 7)],1,[],.bool true⟩
theorem oeok21:OEok Try.prog oe21:=oe_run (pl:=evpl) (orc:=orcL [oe0,oe1,oe2,oe3,oe4,oe5,oe6,oe7,oe8,oe9,oe10,oe11,oe12,oe13,oe14,oe15,oe16,oe17,oe18,oe19,oe20]) (orcL_ok (oes ⟨oeok0,oeok1,oeok2,oeok3,oeok4,oeok5,oeok6,oeok7,oeok8,oeok9,oeok10,oeok11,oeok12,oeok13,oeok14,oeok15,oeok16,oeok17,oeok18,oeok19,oeok20,trivial⟩)) evttok evftok evmix 1000 oe21 .nil rfl rfl rfl trivial (by kernel_rfl)
def oe22:OE:=⟨43,[.agg #[.int .i64 (.ofNat 20),.int .i64 (.ofNat 25),.int .i64 (.ofNat 6000),.int .i64 (.ofNat 12000),.int .i64 (.ofNat 50),.slice (some ⟨0,0,none⟩) 2 5,.int .i64 (.ofNat 300),.int .i64 (.ofNat 310),.int .i64 (.ofNat 5)],.agg #[.int .i64 (.ofNat 22),.int .i64 (.ofNat 22),.int .i64 (.ofNat 300),.int .i64 (.ofNat 310),.int .i64 (.ofNat 500),.int .i64 (.ofNat 520),.int .i64 (.negSucc 9),.int .i64 (.ofNat 20)],.int .i64 (.ofNat 7)],1,[],.bool true⟩
theorem oeok22:OEok Try.prog oe22:=oe_run (pl:=evpl) (orc:=orcL [oe0,oe1,oe2,oe3,oe4,oe5,oe6,oe7,oe8,oe9,oe10,oe11,oe12,oe13,oe14,oe15,oe16,oe17,oe18,oe19,oe20,oe21]) (orcL_ok (oes ⟨oeok0,oeok1,oeok2,oeok3,oeok4,oeok5,oeok6,oeok7,oeok8,oeok9,oeok10,oeok11,oeok12,oeok13,oeok14,oeok15,oeok16,oeok17,oeok18,oeok19,oeok20,oeok21,trivial⟩)) evttok evftok evmix 1000 oe22 .nil rfl rfl rfl trivial (by kernel_rfl)
def oe23:OE:=⟨43,[.agg #[.int .i64 (.ofNat 20),.int .i64 (.ofNat 25),.int .i64 (.ofNat 6000),.int .i64 (.ofNat 12000),.int .i64 (.ofNat 50),.slice (some ⟨0,0,none⟩) 2 5,.int .i64 (.ofNat 300),.int .i64 (.ofNat 310),.int .i64 (.ofNat 5)],.agg #[.int .i64 (.ofNat 23),.int .i64 (.ofNat 23),.int .i64 (.ofNat 300),.int .i64 (.ofNat 310),.int .i64 (.ofNat 500),.int .i64 (.ofNat 520),.int .i64 (.negSucc 9),.int .i64 (.ofNat 20)],.int .i64 (.ofNat 7)],1,[],.bool true⟩
theorem oeok23:OEok Try.prog oe23:=oe_run (pl:=evpl) (orc:=orcL [oe0,oe1,oe2,oe3,oe4,oe5,oe6,oe7,oe8,oe9,oe10,oe11,oe12,oe13,oe14,oe15,oe16,oe17,oe18,oe19,oe20,oe21,oe22]) (orcL_ok (oes ⟨oeok0,oeok1,oeok2,oeok3,oeok4,oeok5,oeok6,oeok7,oeok8,oeok9,oeok10,oeok11,oeok12,oeok13,oeok14,oeok15,oeok16,oeok17,oeok18,oeok19,oeok20,oeok21,oeok22,trivial⟩)) evttok evftok evmix 1000 oe23 .nil rfl rfl rfl trivial (by kernel_rfl)
def oe24:OE:=⟨43,[.agg #[.int .i64 (.ofNat 20),.int .i64 (.ofNat 25),.int .i64 (.ofNat 6000),.int .i64 (.ofNat 12000),.int .i64 (.ofNat 50),.slice (some ⟨0,0,none⟩) 2 5,.int .i64 (.ofNat 300),.int .i64 (.ofNat 310),.int .i64 (.ofNat 5)],.agg #[.int .i64 (.ofNat 24),.int .i64 (.ofNat 24),.int .i64 (.ofNat 300),.int .i64 (.ofNat 310),.int .i64 (.ofNat 500),.int .i64 (.ofNat 520),.int .i64 (.negSucc 9),.int .i64 (.ofNat 20)],.int .i64 (.ofNat 7)],1,[],.bool true⟩
theorem oeok24:OEok Try.prog oe24:=oe_run (pl:=evpl) (orc:=orcL [oe0,oe1,oe2,oe3,oe4,oe5,oe6,oe7,oe8,oe9,oe10,oe11,oe12,oe13,oe14,oe15,oe16,oe17,oe18,oe19,oe20,oe21,oe22,oe23]) (orcL_ok (oes ⟨oeok0,oeok1,oeok2,oeok3,oeok4,oeok5,oeok6,oeok7,oeok8,oeok9,oeok10,oeok11,oeok12,oeok13,oeok14,oeok15,oeok16,oeok17,oeok18,oeok19,oeok20,oeok21,oeok22,oeok23,trivial⟩)) evttok evftok evmix 1000 oe24 .nil rfl rfl rfl trivial (by kernel_rfl)
end Go.Proofs.Orl

namespace Go.Proofs.Orl
open Go
set_option maxRecDepth 100000
set_option maxHeartbeats 4000000
def oe25:OE:=⟨43,[.agg #[.int .i64 (.ofNat 20),.int .i64 (.ofNat 25),.int .i64 (.ofNat 6000),.int .i64 (.ofNat 12000),.int .i64 (.ofNat 50),.slice (some ⟨0,0,none⟩) 2 5,.int .i64 (.ofNat 300),.int .i64 (.ofNat 310),.int .i64 (.ofNat 5)],.agg #[.int .i64 (.ofNat 25),.int .i64 (.ofNat 25),.int .i64 (.ofNat 300),.int .i64 (.ofNat 310),.int .i64 (.ofNat 500),.int .i64 (.ofNat 520),.int .i64 (.negSucc 9),.int .i64 (.ofNat 20)],.int .i64 (.ofNat 7)],1,[],.bool false⟩
theorem oeok25:OEok Try.prog oe25:=oe_run (pl:=evpl) (orc:=orcL [oe0,oe1,oe2,oe3,oe4,oe5,oe6,oe7,oe8,oe9,oe10,oe11,oe12,oe13,oe14,oe15,oe16,oe17,oe18,oe19,oe20,oe21,oe22,oe23,oe24]) (orcL_ok (oes ⟨oeok0,oeok1,oeok2,oeok3,oeok4,oeok5,oeok6,oeok7,oeok8,oeok9,oeok10,oeok11,oeok12,oeok13,oeok14,oeok15,oeok16,oeok17,oeok18,oeok19,oeok20,oeok21,oeok22,oeok23,oeok24,trivial⟩)) evttok evftok evmix 1000 oe25 .nil rfl rfl rfl trivial (by kernel_rfl)
def oe26:OE:=⟨43,[.agg #[.int .i64 (.ofNat 20),.int .i64 (.ofNat 25),.int .i64 (.ofNat 6000),.int .i64 (.ofNat 12000),.int .i64 (.ofNat 50),.slice (some ⟨0,0,none⟩) 2 5,.int .i64 (.ofNat 300),.int .i64 (.ofNat 310),.int .i64 (.ofNat 5)],.agg #[.int .i64 (.ofNat 25),.int .i64 (.ofNat 25),.int .i64 (.ofNat 300),.int .i64 (.ofNat 300),.int .i64 (.ofNat 500),.int .i64 (.ofNat 520),.int .i64 (.negSucc 9),.int .i64 (.ofNat 20)],.int .i64 (.ofNat 7)],1,[],.bool true⟩
theorem oeok26:OEok Try.prog oe26:=oe_run (pl:=evpl) (orc:=orcL [oe0,oe1,oe2,oe3,oe4,oe5,oe6,oe7,oe8,oe9,oe10,oe11,oe12,oe13,oe14,oe15,oe16,oe17,oe18,oe19,oe20,oe21,oe22,oe23,oe24,oe25]) (orcL_ok (oes ⟨oeok0,oeok1,oeok2,oeok3,oeok4,oeok5,oeok6,oeok7,oeok8,oeok9,oeok10,oeok11,oeok12,oeok13,oeok14,oeok15,oeok16,oeok17,oeok18,oeok19,oeok20,oeok21,oeok22,oeok23,oeok24,oeok25,trivial⟩)) evttok evftok evmix 1000 oe26 .nil rfl rfl rfl trivial (by kernel_rfl)
def oe27:OE:=⟨43,[.agg #[.int .i64 (.ofNat 20),.int .i64 (.ofNat 25),.int .i64 (.ofNat 6000),.int .i64 (.ofNat 12000),.int .i64 (.ofNat 50),.slice (some ⟨0,0,none⟩) 2 5,.int .i64 (.ofNat 300),.int .i64 (.ofNat 310),.int .i64 (.ofNat 5)],.agg #[.int .i64 (.ofNat 25),.int .i64 (.ofNat 25),.int .i64 (.ofNat 301),.int .i64 (.ofNat 301),.int .i64 (.ofNat 500),.int .i64 (.ofNat 520),.int .i64 (.negSucc 9),.int .i64 (.ofNat 20)],.int .i64 (.ofNat 7)],1,[],.bool true⟩
theorem oeok27:OEok Try.prog oe27:=oe_run (pl:=evpl) (orc:=orcL [oe0,oe1,oe2,oe3,oe4,oe5,oe6,oe7,oe8,oe9,oe10,oe11,oe12,oe13,oe14,oe15,oe16,oe17,oe18,oe19,oe20,oe21,oe22,oe23,oe24,oe25,oe26]) (orcL_ok (oes ⟨oeok0,oeok1,oeok2,oeok3,oeok4,oeok5,oeok6,oeok7,oeok8,oeok9,oeok10,oeok11,oeok12,oeok13,oeok14,oeok15,oeok16,oeok17,oeok18,oeok19,oeok20,oeok21,oeok22,oeok23,oeok24,oeok25,oeok26,trivial⟩)) evttok evftok evmix 1000 oe27 .nil rfl rfl rfl trivial (by kernel_rfl)
def oe28:OE:=⟨43,[.agg #[.int .i64 (.ofNat 20),.int .i64 (.ofNat 25),.int .i64 (.ofNat 6000),.int .i64 (.ofNat 12000),.int .i64 (.ofNat 50),.slice (some ⟨0,0,none⟩) 2 5,.int .i64 (.ofNat 300),.int .i64 (.ofNat 310),.int .i64 (.ofNat 5)],.agg #[.int .i64 (.ofNat 25),.int .i64 (.ofNat 25),.int .i64 (.ofNat 302),.int .i64 (.ofNat 302),.int .i64 (.ofNat 500),.int .i64 (.ofNat 520),.int .i64 (.negSucc 9),.int .i64 (.ofNat 20)],.int .i64 (.ofNat 7)],1,[],.bool true⟩
theorem oeok28:OEok Try.prog oe28:=oe_run (pl:=evpl) (orc:=orcL [oe0,oe1,oe2,oe3,oe4,oe5,oe6,oe7,oe8,oe9,oe10,oe11,oe12,oe13,oe14,oe15,oe16,oe17,oe18,oe19,oe20,oe21,oe22,oe23,oe24,oe25,oe26,oe27]) (orcL_ok (oes ⟨oeok0,oeok1,oeok2,oeok3,oeok4,oeok5,oeok6,oeok7,oeok8,oeok9,oeok10,oeok11,oeok12,oeok13,oeok14,oeok15,oeok16,oeok17,oeok18,oeok19,oeok20,oeok21,oeok22,oeok23,oeok24,oeok25,oeok26,oeok27,trivial⟩)) evttok evftok evmix 1000 oe28 .nil rfl rfl rfl trivial (by kernel_rfl)
def oe29:OE:=⟨43,[.agg #[.int .i64 (.ofNat 20),.int .i64 (.ofNat 25),.int .i64 (.ofNat 6000),.int .i64 (.ofNat 12000),.int .i64 (.ofNat 50),.slice (some ⟨0,0,none⟩) 2 5,.int .i64 (.ofNat 300),.int .i64 (.ofNat 310),.int .i64 (.ofNat 5)],.agg #[.int .i64 (.ofNat 25),.int .i64 (.ofNat 25),.int .i64 (.ofNat 303),.int .i64 (.ofNat 303),.int .i64 (.ofNat 500),.int .i64 (.ofNat 520),.int .i64 (.negSucc 9),.int .i64 (.ofNat 20)],.int .i64 (.ofNat 7)],1,[],.bool true⟩
theorem oeok29:OEok Try.prog oe29:=oe_run (pl:=evpl) (orc:=orcL [oe0,oe1,oe2,oe3,oe4,oe5,oe6,oe7,oe8,oe9,oe10,oe11,oe12,oe13,oe14,oe15,oe16,oe17,oe18,oe19,oe20,oe21,oe22,oe23,oe24,oe25,oe26,oe27,oe28]) (orcL_ok (oes ⟨oeok0,oeok1,oeok2,oeok3,oeok4,oeok5,oeok6,oeok7,oeok8,oeok9,oeok10,oeok11,oeok12,oeok13,oeok14,oeok15,oeok16,oeok17,oeok18,oeok19,oeok20,oeok21,oeok22,oeok23,oeok24,oeok25,oeok26,oeok27,oeok28,trivial⟩)) evttok evftok evmix 1000 oe29 .nil rfl rfl rfl trivial (by kernel_rfl)
def oe30:OE:=⟨43,[.agg #[.int .i64 (.ofNat 20),.int .i64 (.ofNat 25),.int .i64 (.ofNat 6000),.int .i64 (.ofNat 12000),.int .i64 (.ofNat 50),.slice (some ⟨0,0,none⟩) 2 5,.int .i64 (.ofNat 300),.int .i64 (.ofNat 310),.int .i64 (.ofNat 5)],.agg #[.int .i64 (.ofNat 25),.int .i64 (.ofNat 25),.int .i64 (.ofNat 304),.int .i64 (.ofNat 304),.int .i64 (.ofNat 500),.int .i64 (.ofNat 520),.int .i64 (.negSucc 9),.int .i64 (.ofNat 20)],.int .i64 (.ofNat 7)],1,[],.bool true⟩
theorem oeok30:OEok Try.prog oe30:=oe_run (pl:=evpl) (orc:=orcL [oe0,oe1,oe2,oe3,oe4,oe5,oe6,oe7,oe8,oe9,oe10,oe11,oe12,oe13,oe14,oe15,oe16,oe17,oe18,oe19,oe20,oe21,oe22,oe23,oe24,oe25,oe26,oe27,oe28,oe29]) (orcL_ok (oes ⟨oeok0,oeok1,oeok2,oeok3,oeok4,oeok5,oeok6,oeok7,oeok8,oeok9,oeok10,oeok11,oeok12,oeok13,oeok14,oeok15,oeok16,oeok17,oeok18,oeok19,oeok20,oeok21,oeok22,oeok23,oeok24,oeok25,oeok26,oeok27,oeok28,oeok29,trivial⟩)) evttok evftok evmix 1000 oe30 .nil rfl rfl rfl trivial (by kernel_rfl)
end Go.Proofs.Orl

namespace Go.Proofs.Orl
open Go
set_option maxRecDepth 100000
set_option maxHeartbeats 4000000
def oe31:OE:=⟨43,[.agg #[.int .i64 (.ofNat 20),.int .i64 (.ofNat 25),.int .i64 (.ofNat 6000),.int .i64 (.ofNat 12000),.int .i64 (.ofNat 50),.slice (some ⟨0,0,none⟩) 2 5,.int .i64 (.ofNat 300),.int .i64 (.ofNat 310),.int .i64 (.ofNat 5)],.agg #[.int .i64 (.ofNat 25),.int .i64 (.ofNat 25),.int .i64 (.ofNat 305),.int .i64 (.ofNat 305),.int .i64 (.ofNat 500),.int .i64 (.ofNat 520),.int .i64 (.negSucc 9),.int .i64 (.ofNat 20)],.int .i64 (.ofNat 7)],1,[],.bool true⟩
theorem oeok31:OEok Try.prog oe31:=oe_run (pl:=evpl) (orc:=orcL [oe0,oe1,oe2,oe3,oe4,oe5,oe6,oe7,oe8,oe9,oe10,oe11,oe12,oe13,oe14,oe15,oe16,oe17,oe18,oe19,oe20,oe21,oe22,oe23,oe24,oe25,oe26,oe27,oe28,oe29,oe30]) (orcL_ok (oes ⟨oeok0,oeok1,oeok2,oeok3,oeok4,oeok5,oeok6,oeok7,oeok8,oeok9,oeok10,oeok11,oeok12,oeok13,oeok14,oeok15,oeok16,oeok17,oeok18,oeok19,oeok20,oeok21,oeok22,oeok23,oeok24,oeok25,oeok26,oeok27,oeok28,oeok29,oeok30,trivial⟩)) evttok evftok evmix 1000 oe31 .nil rfl rfl rfl trivial (by kernel_rfl)
def oe32:OE:=⟨43,[.agg #[.int .i64 (.ofNat 20),.int .i64 (.ofNat 25),.int .i64 (.ofNat 6000),.int .i64 (.ofNat 12000),.int .i64 (.ofNat 50),.slice (some ⟨0,0,none⟩) 2 5,.int .i64 (.ofNat 300),.int .i64 (.ofNat 310),.int .i64 (.ofNat 5)],.agg #[.int .i64 (.ofNat 25),.int .i64 (.ofNat 25),.int .i64 (.ofNat 306),.int .i64 (.ofNat 306),.int .i64 (.ofNat 500),.int .i64 (.ofNat 520),.int .i64 (.negSucc 9),.int .i64 (.ofNat 20)],.int .i64 (.ofNat 7)],1,[],.bool false⟩
theorem oeok32:OEok Try.prog oe32:=oe_run (pl:=evpl) (orc:=orcL [oe0,oe1,oe2,oe3,oe4,oe5,oe6,oe7,oe8,oe9,oe10,oe11,oe12,oe13,oe14,oe15,oe16,oe17,oe18,oe19,oe20,oe21,oe22,oe23,oe24,oe25,oe26,oe27,oe28,oe29,oe30,oe31]) (orcL_ok (oes ⟨oeok0,oeok1,oeok2,oeok3,oeok4,oeok5,oeok6,oeok7,oeok8,oeok9,oeok10,oeok11,oeok12,oeok13,oeok14,oeok15,oeok16,oeok17,oeok18,oeok19,oeok20,oeok21,oeok22,oeok23,oeok24,oeok25,oeok26,oeok27,oeok28,oeok29,oeok30,oeok31,trivial⟩)) evttok evftok evmix 1000 oe32 .nil rfl rfl rfl trivial (by kernel_rfl)
def oe33:OE:=⟨43,[.agg #[.int .i64 (.ofNat 20),.int .i64 (.ofNat 25),.int .i64 (.ofNat 6000),.int .i64 (.ofNat 12000),.int .i64 (.ofNat 50),.slice (some ⟨0,0,none⟩) 2 5,.int .i64 (.ofNat 300),.int .i64 (.ofNat 310),.int .i64 (.ofNat 5)],.agg #[.int .i64 (.ofNat 25),.int .i64 (.ofNat 25),.int .i64 (.ofNat 306),.int .i64 (.ofNat 306),.int .i64 (.ofNat 500),.int .i64 (.ofNat 500),.int .i64 (.negSucc 9),.int .i64 (.ofNat 20)],.int .i64 (.ofNat 7)],1,[],.bool false⟩
theorem oeok33:OEok Try.prog oe33:=oe_run (pl:=evpl) (orc:=orcL [oe0,oe1,oe2,oe3,oe4,oe5,oe6,oe7,oe8,oe9,oe10,oe11,oe12,oe13,oe14,oe15,oe16,oe17,oe18,oe19,oe20,oe21,oe22,oe23,oe24,oe25,oe26,oe27,oe28,oe29,oe30,oe31,oe32]) (orcL_ok (oes ⟨oeok0,oeok1,oeok2,oeok3,oeok4,oeok5,oeok6,oeok7,oeok8,oeok9,oeok10,oeok11,oeok12,oeok13,oeok14,oeok15,oeok16,oeok17,oeok18,oeok19,oeok20,oeok21,oeok22,oeok23,oeok24,oeok25,oeok26,oeok27,oeok28,oeok29,oeok30,oeok31,oeok32,trivial⟩)) evttok evftok evmix 1000 oe33 .nil rfl rfl rfl trivial (by kernel_rfl)
def oe34:OE:=⟨43,[.agg #[.int .i64 (.ofNat 20),.int .i64 (.ofNat 25),.int .i64 (.ofNat 6000),.int .i64 (.ofNat 12000),.int .i64 (.ofNat 50),.slice (some ⟨0,0,none⟩) 2 5,.int .i64 (.ofNat 300),.int .i64 (.ofNat 310),.int .i64 (.ofNat 5)],.agg #[.int .i64 (.ofNat 25),.int .i64 (.ofNat 25),.int .i64 (.ofNat 306),.int .i64 (.ofNat 306),.int .i64 (.ofNat 500),.int .i64 (.ofNat 500),.int .i64 (.negSucc 9),.int .i64 (.negSucc 9)],.int .i64 (.ofNat 7)],1,[],.bool false⟩
theorem oeok34:OEok Try.prog oe34:=oe_run (pl:=evpl) (orc:=orcL [oe0,oe1,oe2,oe3,oe4,oe5,oe6,oe7,oe8,oe9,oe10,oe11,oe12,oe13,oe14,oe15,oe16,oe17,oe18,oe19,oe20,oe21,oe22,oe23,oe24,oe25,oe26,oe27,oe28,oe29,oe30,oe31,oe32,oe33]) (orcL_ok (oes ⟨oeok0,oeok1,oeok2,oeok3,oeok4,oeok5,oeok6,oeok7,oeok8,oeok9,oeok10,oeok11,oeok12,oeok13,oeok14,oeok15,oeok16,oeok17,oeok18,oeok19,oeok20,oeok21,oeok22,oeok23,oeok24,oeok25,oeok26,oeok27,oeok28,oeok29,oeok30,oeok31,oeok32,oeok33,trivial⟩)) evttok evftok evmix 1000 oe34 .nil rfl rfl rfl trivial (by kernel_rfl)
def oe35:OE:=⟨39,[.func (.func 60) #[] #[.pointer (some ⟨0,0,none⟩)],.func (.func 64) #[] #[]],1,[some [.int .i64 (.ofNat 20),.int .i64 (.ofNat 25),.int .i64 (.ofNat 0),.int .i64 (.ofNat 0),.int .i64 (.ofNat 190),.int .i64 (.ofNat 190),.int .i64 (.ofNat 0),.int .i64 (.ofNat 0)]],.agg #[.int .i64 (.ofNat 7600),.int .i64 (.ofNat 9500)]⟩
theorem oeok35:OEok Try.prog oe35:=oe_run (pl:=evpl) (orc:=orcL [oe0,oe1,oe2,oe3,oe4,oe5,oe6,oe7,oe8,oe9,oe10,oe11,oe12,oe13,oe14,oe15,oe16,oe17,oe18,oe19,oe20,oe21,oe22,oe23,oe24,oe25,oe26,oe27,oe28,oe29,oe30,oe31,oe32,oe33,oe34]) (orcL_ok (oes ⟨oeok0,oeok1,oeok2,oeok3,oeok4,oeok5,oeok6,oeok7,oeok8,oeok9,oeok10,oeok11,oeok12,oeok13,oeok14,oeok15,oeok16,oeok17,oeok18,oeok19,oeok20,oeok21,oeok22,oeok23,oeok24,oeok25,oeok26,oeok27,oeok28,oeok29,oeok30,oeok31,oeok32,oeok33,oeok34,trivial⟩)) evttok evftok evmix 1000 oe35 (.node (some (.row [.int .i64 (.ofNat 20),.int .i64 (.ofNat 25),.int .i64 (.ofNat 0),.int .i64 (.ofNat 0),.int .i64 (.ofNat 190),.int .i64 (.ofNat 190),.int .i64 (.ofNat 0),.int .i64 (.ofNat 0)])) .nil .nil) rfl rfl rfl ⟨⟨_,rfl,rfl⟩,trivial,trivial⟩ (by kernel_rfl)
def oe36:OE:=⟨39,[.func (.func 60) #[] #[.pointer (some ⟨0,0,none⟩)],.func (.func 65) #[] #[]],1,[some [.int .i64 (.ofNat 20),.int .i64 (.ofNat 25),.int .i64 (.ofNat 0),.int .i64 (.ofNat 0),.int .i64 (.ofNat 260),.int .i64 (.ofNat 260),.int .i64 (.ofNat 0),.int .i64 (.ofNat 0)]],.agg #[.int .i64 (.ofNat 10400),.int .i64 (.ofNat 13000)]⟩
theorem oeok36:OEok Try.prog oe36:=oe_run (pl:=evpl) (orc:=orcL [oe0,oe1,oe2,oe3,oe4,oe5,oe6,oe7,oe8,oe9,oe10,oe11,oe12,oe13,oe14,oe15,oe16,oe17,oe18,oe19,oe20,oe21,oe22,oe23,oe24,oe25,oe26,oe27,oe28,oe29,oe30,oe31,oe32,oe33,oe34,oe35]) (orcL_ok (oes ⟨oeok0,oeok1,oeok2,oeok3,oeok4,oeok5,oeok6,oeok7,oeok8,oeok9,oeok10,oeok11,oeok12,oeok13,oeok14,oeok15,oeok16,oeok17,oeok18,oeok19,oeok20,oeok21,oeok22,oeok23,oeok24,oeok25,oeok26,oeok27,oeok28,oeok29,oeok30,oeok31,oeok32,oeok33,oeok34,oeok35,trivial⟩)) evttok evftok evmix 1000 oe36 (.node (some (.row [.int .i64 (.ofNat 20),.int .i64 (.ofNat 25),.int .i64 (.ofNat 0),.int .i64 (.ofNat 0),.int .i64 (.ofNat 260),.int .i64 (.ofNat 260),.int .i64 (.ofNat 0),.int .i64 (.ofNat 0)])) .nil .nil) rfl rfl rfl ⟨⟨_,rfl,rfl⟩,trivial,trivial⟩ (by kernel_rfl)
end Go.Proofs.Orl

namespace Go.Proofs.Orl
open Go
set_option maxRecDepth 100000
set_option maxHeartbeats 4000000
def oe37:OE:=⟨39,[.func (.func 60) #[] #[.pointer (some ⟨0,0,none⟩)],.func (.func 64) #[] #[]],1,[some [.int .i64 (.ofNat 20),.int .i64 (.ofNat 25),.int .i64 (.ofNat 0),.int .i64 (.ofNat 0),.int .i64 (.ofNat 290),.int .i64 (.ofNat 290),.int .i64 (.ofNat 0),.int .i64 (.ofNat 0)]],.agg #[.int .i64 (.ofNat 11600),.int .i64 (.ofNat 14500)]⟩
theorem oeok37:OEok Try.prog oe37:=oe_run (pl:=evpl) (orc:=orcL [oe0,oe1,oe2,oe3,oe4,oe5,oe6,oe7,oe8,oe9,oe10,oe11,oe12,oe13,oe14,oe15,oe16,oe17,oe18,oe19,oe20,oe21,oe22,oe23,oe24,oe25,oe26,oe27,oe28,oe29,oe30,oe31,oe32,oe33,oe34,oe35,oe36]) (orcL_ok (oes ⟨oeok0,oeok1,oeok2,oeok3,oeok4,oeok5,oeok6,oeok7,oeok8,oeok9,oeok10,oeok11,oeok12,oeok13,oeok14,oeok15,oeok16,oeok17,oeok18,oeok19,oeok20,oeok21,oeok22,oeok23,oeok24,oeok25,oeok26,oeok27,oeok28,oeok29,oeok30,oeok31,oeok32,oeok33,oeok34,oeok35,oeok36,trivial⟩)) evttok evftok evmix 1000 oe37 (.node (some (.row [.int .i64 (.ofNat 20),.int .i64 (.ofNat 25),.int .i64 (.ofNat 0),.int .i64 (.ofNat 0),.int .i64 (.ofNat 290),.int .i64 (.ofNat 290),.int .i64 (.ofNat 0),.int .i64 (.ofNat 0)])) .nil .nil) rfl rfl rfl ⟨⟨_,rfl,rfl⟩,trivial,trivial⟩ (by kernel_rfl)
def oe38:OE:=⟨39,[.func (.func 60) #[] #[.pointer (some ⟨0,0,none⟩)],.func (.func 65) #[] #[]],1,[some [.int .i64 (.ofNat 20),.int .i64 (.ofNat 25),.int .i64 (.ofNat 0),.int .i64 (.ofNat 0),.int .i64 (.ofNat 360),.int .i64 (.ofNat 360),.int .i64 (.ofNat 0),.int .i64 (.ofNat 0)]],.agg #[.int .i64 (.ofNat 14400),.int .i64 (.ofNat 18000)]⟩
theorem oeok38:OEok Try.prog oe38:=oe_run (pl:=evpl) (orc:=orcL [oe0,oe1,oe2,oe3,oe4,oe5,oe6,oe7,oe8,oe9,oe10,oe11,oe12,oe13,oe14,oe15,oe16,oe17,oe18,oe19,oe20,oe21,oe22,oe23,oe24,oe25,oe26,oe27,oe28,oe29,oe30,oe31,oe32,oe33,oe34,oe35,oe36,oe37]) (orcL_ok (oes ⟨oeok0,oeok1,oeok2,oeok3,oeok4,oeok5,oeok6,oeok7,oeok8,oeok9,oeok10,oeok11,oeok12,oeok13,oeok14,oeok15,oeok16,oeok17,oeok18,oeok19,oeok20,oeok21,oeok22,oeok23,oeok24,oeok25,oeok26,oeok27,oeok28,oeok29,oeok30,oeok31,oeok32,oeok33,oeok34,oeok35,oeok36,oeok37,trivial⟩)) evttok evftok evmix 1000 oe38 (.node (some (.row [.int .i64 (.ofNat 20),.int .i64 (.ofNat 25),.int .i64 (.ofNat 0),.int .i64 (.ofNat 0),.int .i64 (.ofNat 360),.int .i64 (.ofNat 360),.int .i64 (.ofNat 0),.int .i64 (.ofNat 0)])) .nil .nil) rfl rfl rfl ⟨⟨_,rfl,rfl⟩,trivial,trivial⟩ (by kernel_rfl)
def oe39:OE:=⟨31,[],0,[],.bool true⟩
theorem oeok39:OEok Try.prog oe39:=oe_run (pl:=evpl) (orc:=orcL [oe0,oe1,oe2,oe3,oe4,oe5,oe6,oe7,oe8,oe9,oe10,oe11,oe12,oe13,oe14,oe15,oe16,oe17,oe18,oe19,oe20,oe21,oe22,oe23,oe24,oe25,oe26,oe27,oe28,oe29,oe30,oe31,oe32,oe33,oe34,oe35,oe36,oe37,oe38]) (orcL_ok (oes ⟨oeok0,oeok1,oeok2,oeok3,oeok4,oeok5,oeok6,oeok7,oeok8,oeok9,oeok10,oeok11,oeok12,oeok13,oeok14,oeok15,oeok16,oeok17,oeok18,oeok19,oeok20,oeok21,oeok22,oeok23,oeok24,oeok25,oeok26,oeok27,oeok28,oeok29,oeok30,oeok31,oeok32,oeok33,oeok34,oeok35,oeok36,oeok37,oeok38,trivial⟩)) evttok evftok evmix 1000 oe39 .nil rfl rfl rfl trivial (by kernel_rfl)
end Go.Proofs.Orl

namespace Go.Proofs.Orl
open Go
theorem awake_run {H:SH} (wt:WT H):WC Try.prog 31 [] H fun v H' => Keep H H'∧WT H'∧v=.bool true:=oe_call oeok39 rfl rfl rfl wt
end Go.Proofs.Orl

namespace Go.Proofs.Orl
open Go
set_option maxRecDepth 10000
set_option maxHeartbeats 4000000
theorem ag3:aggT Try.prog 3=some false:=by kernel_rfl
theorem ag4:aggT Try.prog 4=some false:=by kernel_rfl
theorem ag23:aggT Try.prog 23=some true:=by kernel_rfl
theorem ag79:aggT Try.prog 79=some true:=by kernel_rfl
theorem ag83:aggT Try.prog 83=some true:=by kernel_rfl
theorem ag87:aggT Try.prog 87=some true:=by kernel_rfl
theorem ag90:aggT Try.prog 90=some false:=by kernel_rfl
theorem pl23:placesT Try.prog 23=some [(0,1),(1,1)]:=by kernel_rfl
theorem sz3:szT Try.prog 3=some 1:=by kernel_rfl
theorem sz4:szT Try.prog 4=some 1:=by kernel_rfl
theorem sz23:szT Try.prog 23=some 2:=by kernel_rfl
theorem sz26:szT Try.prog 26=some 6:=by kernel_rfl
theorem sz28:szT Try.prog 28=some 3:=by kernel_rfl
theorem sz79:szT Try.prog 79=some 9:=by kernel_rfl
theorem sz83:szT Try.prog 83=some 4:=by kernel_rfl
theorem sz87:szT Try.prog 87=some 8:=by kernel_rfl
theorem sz90:szT Try.prog 90=some 1:=by kernel_rfl
theorem tin23:Try.prog.info? 23=some Try.t23:=by kernel_rfl
theorem ze4:zeroT Try.prog 4=some (.bool false):=by kernel_rfl
theorem ze23:zeroT Try.prog 23=some (.agg #[vI 0,vI 0]):=by kernel_rfl
theorem ze83:zeroT Try.prog 83=some (.agg #[vI 0,vI 0,vI 0,vI 0]):=by kernel_rfl
theorem tide_down_ok (ax1 ax2:Int) (H:SH) (wt:WT H) (h0:ax2 ≠ 0):WC Try.prog 62 [vI ax1,vI ax2] H (fun v H' => Keep H H'∧WT H'∧∃ (rx3:Int),v=(vI rx3)):=by
 refine wc_of_body Try.func62 rfl ?_
 refine wk ⟨[(0,vI ax1),(1,vI ax2)],16,[],H⟩ rfl ?_
 refine w_seq (w_region (mv (vI 0) rfl rfl ?_))
 refine wo_nil (tq_n (wk ⟨[(0,vI ax1),(1,vI ax2)],16,[],H⟩ rfl ?_))
 refine w_seq (w_region (mv (vI ax1) rfl rfl ?_))
 refine mv (vI ax2) rfl rfl ?_
 refine sv_int rfl rfl rfl (opv_bin rfl rfl rfl rfl rfl (if_neg (by omega))) ?_
 intro x101 h102
 try replace h102:x101=ax1.tdiv ax2:=wr_ex h102 (by omega) (by omega)
 refine mv (vI x101) rfl rfl ?_
 refine wo_nil (tq_n (wk ⟨[(0,vI ax1),(1,vI ax2),(5,vI x101)],16,[],H⟩ rfl ?_))
 refine w_seq (w_seq (w_region (mv (vI ax1) rfl rfl ?_)))
 refine mv (vI ax2) rfl rfl ?_
 refine sv_int rfl rfl rfl (opv_bin rfl rfl rfl rfl rfl (if_neg (by omega))) ?_
 intro x103 h104
 by_cases c105:x103 < 0
 ·
  refine sv (v:=.bool true) rfl rfl rfl (opv_bin rfl rfl rfl rfl rfl (cmpT rfl c105)) rfl ?_
  refine wo_nil (tq_n (wk ⟨[(5,vI x101),(12,.bool true)],16,[],H⟩ rfl ?_))
  refine w_cond (t:=true) rfl rfl (fun _ => ?_) (fun h => by cases h)
  refine w_region (mv (vI x101) rfl rfl ?_)
  refine sv_int rfl rfl rfl (opv_bin rfl rfl rfl rfl rfl rfl) ?_
  intro x106 h107
  try replace h107:x106=x101 - 1:=wr_ex h107 (by omega) (by omega)
  refine mv (vI x106) rfl rfl ?_
  refine wo_nil (tq_n (wk ⟨[(5,vI x106)],16,[],H⟩ rfl ?_))
  refine w_seq (w_region (mv (vI x106) rfl rfl ?_))
  refine mv (vI x106) rfl rfl ?_
  refine wo_nil (tq_n (wk ⟨[(4,vI x106)],16,[],H⟩ rfl ?_))
  refine w_ret ?_
  refine ⟨.inr rfl,rfl,[vI x106],.cons (resV_tmp rfl neI) .nil,Keep.refl _,wt,x106,rfl⟩
 ·
  refine sv (v:=.bool false) rfl rfl rfl (opv_bin rfl rfl rfl rfl rfl (cmpF rfl c105)) rfl ?_
  refine wo_nil (tq_n (wk ⟨[(5,vI x101),(12,.bool false)],16,[],H⟩ rfl ?_))
  refine w_cond (t:=false) rfl rfl (fun h => by cases h) (fun _ => ?_)
  refine w_skip (tq_n (wk ⟨[(5,vI x101)],16,[],H⟩ rfl ?_))
  refine w_seq (w_region (mv (vI x101) rfl rfl ?_))
  refine mv (vI x101) rfl rfl ?_
  refine wo_nil (tq_n (wk ⟨[(4,vI x101)],16,[],H⟩ rfl ?_))
  refine w_ret ?_
  refine ⟨.inr rfl,rfl,[vI x101],.cons (resV_tmp rfl neI) .nil,Keep.refl _,wt,x101,rfl⟩

theorem tide_one_ok (ax1:Int) (H:SH) (wt:WT H):WC Try.prog 37 [vI ax1] H (fun v H' => Keep H H'∧WT H'∧v=(.agg #[vI ax1,vI ax1])):=by
 refine wc_of_body Try.func37 rfl ?_
 refine wk ⟨[(0,vI ax1)],6,[],H⟩ rfl ?_
 refine w_seq (w_region (sv_new (H:=H) (v:=vP H.next 0) (x:=.row #[vI 0,vI 0] .raw) rfl rfl rfl rfl (opv_alloc rfl ze23 rfl) ?_))
 intro H101 f102
 refine newL wt f102 fun n105 w103 l104 => ?_
 refine wo_nil (tq_n (wk ⟨[(0,vI ax1),(2,vP H.next 0)],6,[],H101⟩ rfl ?_))
 refine w_seq (w_region (mv (vI ax1) rfl rfl ?_))
 refine mv (vI ax1) rfl rfl ?_
 refine sv (v:=.agg #[vI ax1,vI ax1]) rfl rfl rfl (opv_buildStE (vs:=[(0,vI ax1),(1,vI ax1)]) rfl (.cons rfl rfl neI (.cons rfl rfl neI .nil)) ze23 rfl tin23 Try.underlying23 pl23 rfl rfl) rfl ?_
 refine sv_put (H:=H101) (n:=H.next) (v:=undef) (x:=some (.row #[vI ax1,vI ax1] .raw)) rfl rfl rfl rfl (opv_storeC (u:=.agg #[vI ax1,vI ax1]) rfl rfl rfl rfl rfl (by simp [undef]) sz23 rfl rfl rfl f102.blk rfl rfl) ?_
 intro H106 f107
 refine putL w103 f107 f102.blk fun n110 w108 l109 => ?_
 refine wo_nil (tq_n (wk ⟨[(2,vP H.next 0)],6,[],H106⟩ rfl ?_))
 refine w_ret ?_
 refine ⟨.inr rfl,rfl,[.agg #[vI ax1,vI ax1]],.cons (resV_cellE rfl ag23 sz23 f107.blk rfl (.inl rfl) rfl) .nil,((((KeepX.refl (fun _ => False) H).new_ f102).put f107 (by first | (right; omega) | (left; (try dsimp only) <;> omega))).k (fun _ h => h.elim)),w108,rfl⟩

theorem tide_at1_ok (c0 c1:Int) (c2 c3:Int) (n1 n2 n3:Nat) (bi ba:Int) (ax1 ax2:Int) (ax3 ax4 ax5:Int) (as6:Value) (ax7 ax8 ax9:Int) (H:SH) (wt:WT H) (hvas6:VT H (.sl false [.int .i64,.int .i64,.int .i64,.int .i64,.int .i64]) as6) (hkn1:H.get n1=some (.row #[vI bi] .raw)) (hln1:n1 < H.next) (hkn2:H.get n2=some (.row #[vI ax1,vI ax2,vI ax3,vI ax4,vI ax5,as6,vI ax7,vI ax8,vI ax9] .raw)) (hln2:n2 < H.next) (hkn3:H.get n3=some (.row #[vI ba] .raw)) (hln3:n3 < H.next) (h0:c0 ≠ 0):WC Try.prog 61 [.agg #[vI c0,vI c1,vI c2,vI c3],vP n1 0,vP n2 0,vP n3 0] H (fun v H' => Keep H H'∧WT H'∧∃ (rx1:Int),v=(vI rx1)):=by
 refine wc_of_body Try.func61 rfl ?_
 refine wk ⟨[(0,.agg #[vI c0,vI c1,vI c2,vI c3]),(1,vP n1 0),(2,vP n2 0),(3,vP n3 0)],26,[],H⟩ rfl ?_
 refine w_seq (w_region (sv_new (H:=H) (v:=vP H.next 0) (x:=.row #[vI c0,vI c1,vI c2,vI c3] .raw) rfl rfl rfl rfl (opv_boxE (v:=.agg #[vI c0,vI c1,vI c2,vI c3]) rfl rfl rfl (by simp [undef]) rfl) ?_))
 intro H101 f102
 refine newL wt f102 fun n105 w103 l104 => ?_
 refine mv (vI 0) rfl rfl ?_
 refine wo_nil (tq_n (wk ⟨[(1,vP n1 0),(2,vP n2 0),(3,vP n3 0),(4,vP H.next 0)],26,[],H101⟩ rfl ?_))
 refine w_seq (w_region (sv (v:=vP H.next 2) rfl rfl rfl (opv_indexAddrArrE rfl rfl rfl rfl rfl Try.underlying83 sz3 (by decide) (by decide) rfl) rfl ?_))
 refine sv (v:=vI c2) rfl rfl rfl (opv_loadE rfl rfl rfl ag3 sz3 f102.blk rfl (.inr rfl) rfl) rfl ?_
 refine sv (v:=vP H.next 3) rfl rfl rfl (opv_indexAddrArrE rfl rfl rfl rfl rfl Try.underlying83 sz3 (by decide) (by decide) rfl) rfl ?_
 refine sv (v:=vI c3) rfl rfl rfl (opv_loadE rfl rfl rfl ag3 sz3 f102.blk rfl (.inr rfl) rfl) rfl ?_
 refine sv_int rfl rfl rfl (opv_bin rfl rfl rfl rfl rfl rfl) ?_
 intro x106 h107
 try replace h107:x106=c2 + c3:=wr_ex h107 (by omega) (by omega)
 refine sv (v:=vI bi) rfl rfl rfl (opv_loadE rfl rfl rfl ag3 sz3 ((f102.get n1 (by omega)).trans hkn1) rfl (.inr rfl) rfl) rfl ?_
 refine sv_int rfl rfl rfl (opv_bin rfl rfl rfl rfl rfl rfl) ?_
 intro x108 h109
 try replace h109:x108=x106 + bi:=wr_ex h109 (by omega) (by omega)
 refine sv (v:=vP H.next 1) rfl rfl rfl (opv_indexAddrArrE rfl rfl rfl rfl rfl Try.underlying83 sz3 (by decide) (by decide) rfl) rfl ?_
 refine sv (v:=vI c1) rfl rfl rfl (opv_loadE rfl rfl rfl ag3 sz3 f102.blk rfl (.inr rfl) rfl) rfl ?_
 refine sv_int rfl rfl rfl (opv_bin rfl rfl rfl rfl rfl rfl) ?_
 intro x110 h111
 try replace h111:x110=x108 - c1:=wr_ex h111 (by omega) (by omega)
 refine sv (v:=vP n2 6) rfl rfl rfl (opv_fieldAddrE rfl rfl rfl Try.underlying79 rfl sz28 (by decide) rfl) rfl ?_
 refine sv (v:=vP n2 8) rfl rfl rfl (opv_fieldAddrE rfl rfl rfl Try.underlying28 rfl sz3 (by decide) rfl) rfl ?_
 refine sv (v:=vI ax9) rfl rfl rfl (opv_loadE rfl rfl rfl ag3 sz3 ((f102.get n2 (by omega)).trans hkn2) rfl (.inr rfl) rfl) rfl ?_
 refine sv (v:=vI ba) rfl rfl rfl (opv_loadE rfl rfl rfl ag3 sz3 ((f102.get n3 (by omega)).trans hkn3) rfl (.inr rfl) rfl) rfl ?_
 refine sv_int rfl rfl rfl (opv_bin rfl rfl rfl rfl rfl rfl) ?_
 intro x112 h113
 try replace h113:x112=ax9 * ba:=wr_ex h113 (by omega) (by omega)
 refine sv_int rfl rfl rfl (opv_bin rfl rfl rfl rfl rfl rfl) ?_
 intro x114 h115
 try replace h115:x114=x110 - x112:=wr_ex h115 (by omega) (by omega)
 refine sv_int rfl rfl rfl (opv_bin rfl rfl rfl rfl rfl rfl) ?_
 intro x116 h117
 try replace h117:x116=1000 * x114:=wr_ex h117 (by omega) (by omega)
 refine sv (v:=vP H.next 0) rfl rfl rfl (opv_indexAddrArrE rfl rfl rfl rfl rfl Try.underlying83 sz3 (by decide) (by decide) rfl) rfl ?_
 refine sv (v:=vI c0) rfl rfl rfl (opv_loadE rfl rfl rfl ag3 sz3 f102.blk rfl (.inr rfl) rfl) rfl ?_
 refine sc_ (H:=H101) (vs:=[vI x116,vI c0]) (fv:=.func (.func 62) #[] #[]) rfl rfl rfl rfl rfl rfl (.cons rfl rfl neI (.cons rfl rfl neI .nil)) rfl ?_
 refine WV.mono (wv_f0 Try.call62 (tide_down_ok x116 c0 _ w103 (by omega))) ?_
 rintro v120 H121 ⟨k122,w118,rx3119,rfl⟩
 refine kpL k122 fun n124 l123 => ?_
 refine mv (vI rx3119) rfl rfl ?_
 refine wo_nil (tq_n (wk ⟨[(5,vI rx3119)],26,[],H121⟩ rfl ?_))
 refine w_ret ?_
 refine ⟨.inr rfl,rfl,[vI rx3119],.cons (resV_tmp rfl neI) .nil,(((KeepX.refl (fun _ => False) H).new_ f102).keep k122).k (fun _ h => h.elim),w118,rx3119,rfl⟩

theorem tide_at_ok (ax1 ax2:Int) (ax3 ax4 ax5:Int) (as6:Value) (ax7 ax8:Int) (ax9 ax10 ax11:Int) (H:SH) (wt:WT H) (hvas6:VT H (.sl false [.int .i64,.int .i64,.int .i64,.int .i64,.int .i64]) as6):WC Try.prog 42 [.agg #[vI ax1,vI ax2,vI ax3,vI ax4,vI ax5,as6,vI ax7,vI ax8,vI ax9],vI ax10,vI ax11] H (fun v H' => Keep H H'∧WT H'∧∃ (r1 r2 r3:Nat),v=(.func (.func 61) #[] #[vP r1 0,vP r2 0,vP r3 0])∧(H'.get r1=some (.row #[vI ax11] .raw)∧H.next ≤ r1∧r1 < H'.next)∧(H'.get r2=some (.row #[vI ax1,vI ax2,vI ax3,vI ax4,vI ax5,as6,vI ax7,vI ax8,vI ax9] .raw)∧H.next ≤ r2∧r2 < H'.next)∧(H'.get r3=some (.row #[vI ax10] .raw)∧H.next ≤ r3∧r3 < H'.next)):=by
 refine wc_of_body Try.func42 rfl ?_
 refine wk ⟨[(0,.agg #[vI ax1,vI ax2,vI ax3,vI ax4,vI ax5,as6,vI ax7,vI ax8,vI ax9]),(1,vI ax10),(2,vI ax11)],8,[],H⟩ rfl ?_
 refine w_seq (w_region (sv_new (H:=H) (v:=vP H.next 0) (x:=.row #[vI ax1,vI ax2,vI ax3,vI ax4,vI ax5,as6,vI ax7,vI ax8,vI ax9] .raw) rfl rfl rfl rfl (opv_boxE (v:=.agg #[vI ax1,vI ax2,vI ax3,vI ax4,vI ax5,as6,vI ax7,vI ax8,vI ax9]) rfl rfl rfl (by simp [undef]) rfl) ?_))
 intro H101 f102
 refine newL wt f102 fun n105 w103 l104 => ?_
 refine sv_new (H:=H101) (v:=vP H101.next 0) (x:=.row #[vI ax10] .raw) rfl rfl rfl rfl (opv_boxE (v:=vI ax10) rfl rfl rfl neI rfl) ?_
 intro H106 f107
 refine newL w103 f107 fun n110 w108 l109 => ?_
 refine sv_new (H:=H106) (v:=vP H106.next 0) (x:=.row #[vI ax11] .raw) rfl rfl rfl rfl (opv_boxE (v:=vI ax11) rfl rfl rfl neI rfl) ?_
 intro H111 f112
 refine newL w108 f112 fun n115 w113 l114 => ?_
 refine mv .nilFunc rfl rfl ?_
 refine wo_nil (tq_n (wk ⟨[(3,vP H.next 0),(4,vP H101.next 0),(5,vP H106.next 0)],8,[],H111⟩ rfl ?_))
 refine w_seq (w_region (sv (v:=.func (.func 61) #[] #[vP H106.next 0,vP H.next 0,vP H101.next 0]) rfl rfl rfl (opv_makeFunc (vs:=[]) (us:=[vP H106.next 0,vP H.next 0,vP H101.next 0]) rfl (.func _) .nil (.cons rfl rfl neP (.cons rfl rfl neP (.cons rfl rfl neP .nil)))) rfl ?_))
 refine mv (.func (.func 61) #[] #[vP H106.next 0,vP H.next 0,vP H101.next 0]) rfl rfl ?_
 refine wo_nil (tq_n (wk ⟨[(6,.func (.func 61) #[] #[vP H106.next 0,vP H.next 0,vP H101.next 0])],8,[],H111⟩ rfl ?_))
 refine w_ret ?_
 refine ⟨.inr rfl,rfl,[.func (.func 61) #[] #[vP H106.next 0,vP H.next 0,vP H101.next 0]],.cons (resV_tmp rfl (by simp [undef])) .nil,((((KeepX.refl (fun _ => False) H).new_ f102).new_ f107).new_ f112).k (fun _ h => h.elim),w113,H106.next,H.next,H101.next,rfl,⟨f112.blk,by (try dsimp only); omega,by (try dsimp only); omega⟩,⟨(f112.get H.next (by omega)).trans ((f107.get H.next (by omega)).trans f102.blk),by (try dsimp only); omega,by (try dsimp only); omega⟩,⟨(f112.get H101.next (by omega)).trans f107.blk,by (try dsimp only); omega,by (try dsimp only); omega⟩⟩

theorem tide_corners_ok (ax1 ax2:Int) (ax3 ax4:Int) (ax5 ax6:Int) (ax7 ax8:Int) (H:SH) (wt:WT H):WC Try.prog 41 [.agg #[vI ax1,vI ax2,vI ax3,vI ax4,vI ax5,vI ax6,vI ax7,vI ax8]] H (fun v H' => Keep H H'∧WT H'∧∃ (r1:Nat),v=(.func (.func 60) #[] #[vP r1 0])∧(H'.get r1=some (.row #[vI ax1,vI ax2,vI ax3,vI ax4,vI ax5,vI ax6,vI ax7,vI ax8] .raw)∧H.next ≤ r1∧r1 < H'.next)):=by
 refine wc_of_body Try.func41 rfl ?_
 refine wk ⟨[(0,.agg #[vI ax1,vI ax2,vI ax3,vI ax4,vI ax5,vI ax6,vI ax7,vI ax8])],4,[],H⟩ rfl ?_
 refine w_seq (w_region (sv_new (H:=H) (v:=vP H.next 0) (x:=.row #[vI ax1,vI ax2,vI ax3,vI ax4,vI ax5,vI ax6,vI ax7,vI ax8] .raw) rfl rfl rfl rfl (opv_boxE (v:=.agg #[vI ax1,vI ax2,vI ax3,vI ax4,vI ax5,vI ax6,vI ax7,vI ax8]) rfl rfl rfl (by simp [undef]) rfl) ?_))
 intro H101 f102
 refine newL wt f102 fun n105 w103 l104 => ?_
 refine mv .nilFunc rfl rfl ?_
 refine wo_nil (tq_n (wk ⟨[(1,vP H.next 0)],4,[],H101⟩ rfl ?_))
 refine w_seq (w_region (sv (v:=.func (.func 60) #[] #[vP H.next 0]) rfl rfl rfl (opv_makeFunc (vs:=[]) (us:=[vP H.next 0]) rfl (.func _) .nil (.cons rfl rfl neP .nil)) rfl ?_))
 refine mv (.func (.func 60) #[] #[vP H.next 0]) rfl rfl ?_
 refine wo_nil (tq_n (wk ⟨[(2,.func (.func 60) #[] #[vP H.next 0])],4,[],H101⟩ rfl ?_))
 refine w_ret ?_
 refine ⟨.inr rfl,rfl,[.func (.func 60) #[] #[vP H.next 0]],.cons (resV_tmp rfl (by simp [undef])) .nil,((KeepX.refl (fun _ => False) H).new_ f102).k (fun _ h => h.elim),w103,H.next,rfl,⟨f102.blk,by (try dsimp only); omega,by (try dsimp only); omega⟩⟩

theorem tide_corners_seq (n1:Nat) (x0 x1:Int) (x2 x3:Int) (x4 x5:Int) (x6 x7:Int) (H:SH) (wt:WT H) (hkn1:H.get n1=some (.row #[vI x0,vI x1,vI x2,vI x3,vI x4,vI x5,vI x6,vI x7] .raw)) (hln1:n1 < H.next) (h0:x0 ≠ 0) (h1:x1 ≠ 0):SeqOK Try.prog (.func (.func 60) #[] #[vP n1 0]) [(true,[.int .i64,.int .i64,.int .i64,.int .i64])] (fun l => argI l 0 0 ≠ 0) (fun m => m=n1) (fun _ => False) H:=by
 refine ⟨fun m hm => by (try dsimp only at hm); omega,fun _ h => h.elim,60,[],[vP n1 0],rfl,Try.call60,?_⟩
 intro H1 k0 le0 wt1 X J D y hX hJs hDs hJ hy
 have n0:=k0.next
 have hqn1:H1.get n1=some (.row #[vI x0,vI x1,vI x2,vI x3,vI x4,vI x5,vI x6,vI x7] .raw):=(k0.get n1 hln1 (by simp)).trans hkn1
 refine wc_of_body Try.func60 rfl ?_
 refine wk ⟨[(0,y),(1,vP n1 0)],34,[],H1⟩ rfl ?_
 refine w_seq (w_region (mv (vI 0) rfl rfl ?_))
 refine wo_nil (tq_n (wk ⟨[(0,y),(1,vP n1 0),(7,vI 0)],34,[],H1⟩ rfl ?_))
 refine w_block (w_loopS (fun m108 s109 => ∃ (x101:Int) (H102:SH),(0 ≤ x101)∧(x101 ≤ 16)∧WT H102∧Le H1 H102∧KeepX (fun m => X m) H1 H102∧J H102∧m108=((16:Int) - x101).toNat∧s109=⟨[(0,y),(1,vP n1 0),(7,vI x101)],34,[],H102⟩) (n:=((16:Int) - 0).toNat) ⟨⟨[(0,y),(1,vP n1 0),(7,vI 0)],34,[],H1⟩,subk rfl,0,H1,by omega,by omega,wt1,Le.refl _,KeepX.refl (fun m => X m) H1,hJ,rfl,rfl⟩ ?_)
 rintro m108 s109 ⟨x101,H102,i103,i104,w105,l106,k107,hj110,rfl,rfl⟩
 have n111:=k107.next
 refine w_seq (w_region ?_)
 by_cases c112:x101 < 16
 ·
  refine sv (v:=.bool true) rfl rfl rfl (opv_bin rfl rfl rfl rfl rfl (cmpT rfl c112)) rfl ?_
  refine wo_nil (tq_n (wk ⟨[(0,y),(1,vP n1 0),(7,vI x101),(8,.bool true)],34,[],H102⟩ rfl ?_))
  refine w_seq (w_cond (t:=true) rfl rfl (fun _ => ?_) (fun h => by cases h))
  refine w_skip (tq_n (wk ⟨[(0,y),(1,vP n1 0),(7,vI x101)],34,[],H102⟩ rfl ?_))
  refine w_seq (w_block (w_seq (w_region (mv (vI x101) rfl rfl ?_))))
  refine mv (vI x101) rfl rfl ?_
  refine wo_nil (tq_n (wk ⟨[(0,y),(1,vP n1 0),(3,vI x101),(7,vI x101)],34,[],H102⟩ rfl ?_))
  refine w_seq (w_region (sv_new (H:=H102) (v:=vP H102.next 0) (x:=.row #[vI 0,vI 0,vI 0,vI 0] .raw) rfl rfl rfl rfl (opv_alloc rfl ze83 rfl) ?_))
  intro H113 f114
  refine newL w105 f114 fun n117 w115 l116 => ?_
  refine wo_nil (tq_n (wk ⟨[(0,y),(1,vP n1 0),(3,vI x101),(4,vP H102.next 0),(7,vI x101)],34,[],H113⟩ rfl ?_))
  refine w_seq (w_seq (w_region (sv (v:=.agg #[vI x0,vI x1,vI x2,vI x3,vI x4,vI x5,vI x6,vI x7]) rfl rfl rfl (opv_loadE rfl rfl rfl ag87 sz87 ((f114.get n1 (by omega)).trans ((k107.get n1 (by omega) (yieldX hX (by first | (right; omega) | (left; rfl) | (left; simp)))).trans hqn1)) rfl (.inl rfl) rfl) rfl ?_)))
  refine mv (vI 0) rfl rfl ?_
  refine wo_nil (tq_n (wk ⟨[(0,y),(1,vP n1 0),(3,vI x101),(4,vP H102.next 0),(7,vI x101),(10,.agg #[vI x0,vI x1,vI x2,vI x3,vI x4,vI x5,vI x6,vI x7]),(11,vI 0)],34,[],H113⟩ rfl ?_))
  refine w_block (w_loopS (fun m131 s132 => ∃ (x118 x119:Int) (x120 x121 x122:Int) (H123:SH),(0 ≤ x118)∧(x118 ≤ 4)∧(0 < x118→x119 ≠ 0)∧H123.get H102.next=some (.row #[vI x119,vI x120,vI x121,vI x122] .raw)∧WT H123∧Le H113 H123∧KeepX (fun m => X m∨m=H102.next) H113 H123∧J H123∧m131=((4:Int) - x118).toNat∧s132=⟨[(0,y),(1,vP n1 0),(3,vI x101),(4,vP H102.next 0),(7,vI x101),(10,.agg #[vI x0,vI x1,vI x2,vI x3,vI x4,vI x5,vI x6,vI x7]),(11,vI x118)],34,[],H123⟩) (n:=((4:Int) - 0).toNat) ⟨⟨[(0,y),(1,vP n1 0),(3,vI x101),(4,vP H102.next 0),(7,vI x101),(10,.agg #[vI x0,vI x1,vI x2,vI x3,vI x4,vI x5,vI x6,vI x7]),(11,vI 0)],34,[],H113⟩,subk rfl,0,0,0,0,0,H113,by omega,by omega,by omega,f114.blk,w115,Le.refl _,KeepX.refl (fun m => X m∨m=H102.next) H113,hJs _ _ hj110 (by omega) ((KeepX.refl (fun m => H1.next ≤ m∨False) H102).new_ f114) l116,rfl,rfl⟩ ?_)
  rintro m131 s132 ⟨x118,x119,x120,x121,x122,H123,i124,i125,i126,hb127,w128,l129,k130,hj133,rfl,rfl⟩
  have n134:=k130.next
  refine w_seq (w_region ?_)
  by_cases c135:x118 < 4
  ·
   refine sv (v:=.bool true) rfl rfl rfl (opv_bin rfl rfl rfl rfl rfl (cmpT rfl c135)) rfl ?_
   refine wo_nil (tq_n (wk ⟨[(0,y),(1,vP n1 0),(3,vI x101),(4,vP H102.next 0),(7,vI x101),(10,.agg #[vI x0,vI x1,vI x2,vI x3,vI x4,vI x5,vI x6,vI x7]),(11,vI x118),(12,.bool true)],34,[],H123⟩ rfl ?_))
   refine w_seq (w_cond (t:=true) rfl rfl (fun _ => ?_) (fun h => by cases h))
   refine w_skip (tq_n (wk ⟨[(0,y),(1,vP n1 0),(3,vI x101),(4,vP H102.next 0),(7,vI x101),(10,.agg #[vI x0,vI x1,vI x2,vI x3,vI x4,vI x5,vI x6,vI x7]),(11,vI x118)],34,[],H123⟩ rfl ?_))
   refine w_seq (w_block (w_seq (w_region (mv (vI x118) rfl rfl ?_))))
   have q136:x118=0∨x118=1∨x118=2∨x118=3:=by omega
   rcases q136 with rfl | rfl | rfl | rfl
   ·
    refine sv (v:=.agg #[vI x0,vI x1]) rfl rfl rfl (opv_indexArrE rfl rfl rfl rfl rfl Try.underlying87 ag23 sz23 (by decide) (by decide) (.inl rfl) rfl) rfl ?_
    refine sv_new (H:=H123) (v:=vP H123.next 0) (x:=.row #[vI 0,vI 0] .raw) rfl rfl rfl rfl (opv_alloc rfl ze23 rfl) ?_
    intro H137 f138
    refine newL w128 f138 fun n141 w139 l140 => ?_
    refine mv (vI 0) rfl rfl ?_
    refine sv_put (H:=H137) (n:=H123.next) (v:=undef) (x:=some (.row #[vI x0,vI x1] .raw)) rfl rfl rfl rfl (opv_storeC (u:=.agg #[vI x0,vI x1]) rfl rfl rfl rfl rfl (by simp [undef]) sz23 rfl rfl rfl f138.blk rfl rfl) ?_
    intro H142 f143
    refine putL w139 f143 f138.blk fun n146 w144 l145 => ?_
    refine wo_nil (tq_n (wk ⟨[(0,y),(1,vP n1 0),(3,vI x101),(4,vP H102.next 0),(5,vI 0),(6,vP H123.next 0),(7,vI x101),(10,.agg #[vI x0,vI x1,vI x2,vI x3,vI x4,vI x5,vI x6,vI x7]),(11,vI 0)],34,[],H142⟩ rfl ?_))
    refine w_seq (w_region (mv (vI 0) rfl rfl ?_))
    refine sv (v:=vP H123.next 0) rfl rfl rfl (opv_fieldAddrE rfl rfl rfl Try.underlying23 rfl sz3 (by decide) rfl) rfl ?_
    refine sv (v:=vI x0) rfl rfl rfl (opv_loadE rfl rfl rfl ag3 sz3 f143.blk rfl (.inr rfl) rfl) rfl ?_
    refine sv (v:=vP H102.next 0) rfl rfl rfl (opv_indexAddrArrE rfl rfl rfl rfl rfl Try.underlying83 sz3 (by decide) (by decide) rfl) rfl ?_
    refine sv_put (H:=H142) (n:=H102.next) (v:=undef) (x:=some (.row #[vI x0,vI x120,vI x121,vI x122] .raw)) rfl rfl rfl rfl (opv_storeC (u:=vI x0) rfl rfl rfl rfl rfl neI sz3 rfl rfl rfl ((f143.get H102.next (by omega)).trans ((f138.get H102.next (by omega)).trans hb127)) rfl rfl) ?_
    intro H147 f148
    refine putL w144 f148 ((f143.get H102.next (by omega)).trans ((f138.get H102.next (by omega)).trans hb127)) fun n151 w149 l150 => ?_
    refine wo_nil (tq_n (wk ⟨[(0,y),(1,vP n1 0),(3,vI x101),(4,vP H102.next 0),(5,vI 0),(6,vP H123.next 0),(7,vI x101),(10,.agg #[vI x0,vI x1,vI x2,vI x3,vI x4,vI x5,vI x6,vI x7]),(11,vI 0)],34,[],H147⟩ rfl ?_))
    refine w_seq (w_region (mv (vI x101) rfl rfl ?_))
    refine mv (vI 0) rfl rfl ?_
    refine sv_int rfl rfl rfl (opv_shift rfl rfl rfl rfl rfl (by omega) (.inr ⟨rfl,rfl⟩)) ?_
    intro x152 h153
    refine sv_int rfl rfl rfl (opv_bin rfl rfl rfl rfl rfl rfl) ?_
    intro x154 h155
    try replace h155:x154=((BitVec.ofInt 64 x152 &&& BitVec.ofInt 64 1).toNat:Int):=wr_ex h155 (by omega) (by omega)
    by_cases c156:x154=1
    ·
     refine sv (v:=.bool true) rfl rfl rfl (opv_bin rfl rfl rfl rfl rfl (eqT c156)) rfl ?_
     refine wo_nil (tq_n (wk ⟨[(0,y),(1,vP n1 0),(3,vI x101),(4,vP H102.next 0),(5,vI 0),(6,vP H123.next 0),(7,vI x101),(10,.agg #[vI x0,vI x1,vI x2,vI x3,vI x4,vI x5,vI x6,vI x7]),(11,vI 0),(23,.bool true)],34,[],H147⟩ rfl ?_))
     refine w_cond (t:=true) rfl rfl (fun _ => ?_) (fun h => by cases h)
     refine w_region (mv (vI 0) rfl rfl ?_)
     refine sv (v:=vP H123.next 1) rfl rfl rfl (opv_fieldAddrE rfl rfl rfl Try.underlying23 rfl sz3 (by decide) rfl) rfl ?_
     refine sv (v:=vI x1) rfl rfl rfl (opv_loadE rfl rfl rfl ag3 sz3 ((f148.get H123.next (by omega)).trans f143.blk) rfl (.inr rfl) rfl) rfl ?_
     refine sv (v:=vP H102.next 0) rfl rfl rfl (opv_indexAddrArrE rfl rfl rfl rfl rfl Try.underlying83 sz3 (by decide) (by decide) rfl) rfl ?_
     refine sv_put (H:=H147) (n:=H102.next) (v:=undef) (x:=some (.row #[vI x1,vI x120,vI x121,vI x122] .raw)) rfl rfl rfl rfl (opv_storeC (u:=vI x1) rfl rfl rfl rfl rfl neI sz3 rfl rfl rfl f148.blk rfl rfl) ?_
     intro H157 f158
     refine putL w149 f158 f148.blk fun n161 w159 l160 => ?_
     refine wo_nil ?_
     try refine q_eq (e':=.normal) rfl ?_
     refine tqk ⟨[(0,y),(1,vP n1 0),(3,vI x101),(4,vP H102.next 0),(7,vI x101),(10,.agg #[vI x0,vI x1,vI x2,vI x3,vI x4,vI x5,vI x6,vI x7]),(11,vI 0)],34,[],H157⟩ rfl ?_
     refine w_region (sv (v:=vI 1) rfl rfl rfl (opv_bin rfl rfl rfl rfl rfl rfl) rfl ?_)
     refine mv (vI 1) rfl rfl ?_
     refine wo_nil ?_
     refine tq_n ⟨((4:Int) - 1).toNat,by omega,⟨[(0,y),(1,vP n1 0),(3,vI x101),(4,vP H102.next 0),(7,vI x101),(10,.agg #[vI x0,vI x1,vI x2,vI x3,vI x4,vI x5,vI x6,vI x7]),(11,vI 1)],34,[],H157⟩,subk rfl,1,x1,x120,x121,x122,H157,by omega,by omega,by omega,f158.blk,w159,(((l129.trans l140).trans l145).trans l150).trans l160,((((((KeepX.refl (fun m => X m∨m=H102.next) H113).trans k130 (fun m hm => hm.elim (fun h => .inl (.inl h)) (by intro h; first | (right; omega) | (left; right; omega) | (left; (try dsimp only) <;> omega)))).new_ f138).put f143 (by first | (right; omega) | (left; right; omega) | (left; (try dsimp only) <;> omega))).put f148 (by first | (right; omega) | (left; right; omega) | (left; (try dsimp only) <;> omega))).put f158 (by first | (right; omega) | (left; right; omega) | (left; (try dsimp only) <;> omega))),(hJs _ _ hj133 (by omega) (((((KeepX.refl (fun m => H1.next ≤ m∨False) H123).new_ f138).put f143 (by left; left; omega)).put f148 (by left; left; omega)).put f158 (by left; left; omega)) (((l140.trans l145).trans l150).trans l160)),rfl,rfl⟩
    ·
     refine sv (v:=.bool false) rfl rfl rfl (opv_bin rfl rfl rfl rfl rfl (eqF c156)) rfl ?_
     refine wo_nil (tq_n (wk ⟨[(0,y),(1,vP n1 0),(3,vI x101),(4,vP H102.next 0),(5,vI 0),(6,vP H123.next 0),(7,vI x101),(10,.agg #[vI x0,vI x1,vI x2,vI x3,vI x4,vI x5,vI x6,vI x7]),(11,vI 0),(23,.bool false)],34,[],H147⟩ rfl ?_))
     refine w_cond (t:=false) rfl rfl (fun h => by cases h) (fun _ => ?_)
     refine w_skip ?_
     try refine q_eq (e':=.normal) rfl ?_
     refine tqk ⟨[(0,y),(1,vP n1 0),(3,vI x101),(4,vP H102.next 0),(7,vI x101),(10,.agg #[vI x0,vI x1,vI x2,vI x3,vI x4,vI x5,vI x6,vI x7]),(11,vI 0)],34,[],H147⟩ rfl ?_
     refine w_region (sv (v:=vI 1) rfl rfl rfl (opv_bin rfl rfl rfl rfl rfl rfl) rfl ?_)
     refine mv (vI 1) rfl rfl ?_
     refine wo_nil ?_
     refine tq_n ⟨((4:Int) - 1).toNat,by omega,⟨[(0,y),(1,vP n1 0),(3,vI x101),(4,vP H102.next 0),(7,vI x101),(10,.agg #[vI x0,vI x1,vI x2,vI x3,vI x4,vI x5,vI x6,vI x7]),(11,vI 1)],34,[],H147⟩,subk rfl,1,x0,x120,x121,x122,H147,by omega,by omega,by omega,f148.blk,w149,((l129.trans l140).trans l145).trans l150,(((((KeepX.refl (fun m => X m∨m=H102.next) H113).trans k130 (fun m hm => hm.elim (fun h => .inl (.inl h)) (by intro h; first | (right; omega) | (left; right; omega) | (left; (try dsimp only) <;> omega)))).new_ f138).put f143 (by first | (right; omega) | (left; right; omega) | (left; (try dsimp only) <;> omega))).put f148 (by first | (right; omega) | (left; right; omega) | (left; (try dsimp only) <;> omega))),(hJs _ _ hj133 (by omega) ((((KeepX.refl (fun m => H1.next ≤ m∨False) H123).new_ f138).put f143 (by left; left; omega)).put f148 (by left; left; omega)) ((l140.trans l145).trans l150)),rfl,rfl⟩
   ·
    refine sv (v:=.agg #[vI x2,vI x3]) rfl rfl rfl (opv_indexArrE rfl rfl rfl rfl rfl Try.underlying87 ag23 sz23 (by decide) (by decide) (.inl rfl) rfl) rfl ?_
    refine sv_new (H:=H123) (v:=vP H123.next 0) (x:=.row #[vI 0,vI 0] .raw) rfl rfl rfl rfl (opv_alloc rfl ze23 rfl) ?_
    intro H162 f163
    refine newL w128 f163 fun n166 w164 l165 => ?_
    refine mv (vI 1) rfl rfl ?_
    refine sv_put (H:=H162) (n:=H123.next) (v:=undef) (x:=some (.row #[vI x2,vI x3] .raw)) rfl rfl rfl rfl (opv_storeC (u:=.agg #[vI x2,vI x3]) rfl rfl rfl rfl rfl (by simp [undef]) sz23 rfl rfl rfl f163.blk rfl rfl) ?_
    intro H167 f168
    refine putL w164 f168 f163.blk fun n171 w169 l170 => ?_
    refine wo_nil (tq_n (wk ⟨[(0,y),(1,vP n1 0),(3,vI x101),(4,vP H102.next 0),(5,vI 1),(6,vP H123.next 0),(7,vI x101),(10,.agg #[vI x0,vI x1,vI x2,vI x3,vI x4,vI x5,vI x6,vI x7]),(11,vI 1)],34,[],H167⟩ rfl ?_))
    refine w_seq (w_region (mv (vI 1) rfl rfl ?_))
    refine sv (v:=vP H123.next 0) rfl rfl rfl (opv_fieldAddrE rfl rfl rfl Try.underlying23 rfl sz3 (by decide) rfl) rfl ?_
    refine sv (v:=vI x2) rfl rfl rfl (opv_loadE rfl rfl rfl ag3 sz3 f168.blk rfl (.inr rfl) rfl) rfl ?_
    refine sv (v:=vP H102.next 1) rfl rfl rfl (opv_indexAddrArrE rfl rfl rfl rfl rfl Try.underlying83 sz3 (by decide) (by decide) rfl) rfl ?_
    refine sv_put (H:=H167) (n:=H102.next) (v:=undef) (x:=some (.row #[vI x119,vI x2,vI x121,vI x122] .raw)) rfl rfl rfl rfl (opv_storeC (u:=vI x2) rfl rfl rfl rfl rfl neI sz3 rfl rfl rfl ((f168.get H102.next (by omega)).trans ((f163.get H102.next (by omega)).trans hb127)) rfl rfl) ?_
    intro H172 f173
    refine putL w169 f173 ((f168.get H102.next (by omega)).trans ((f163.get H102.next (by omega)).trans hb127)) fun n176 w174 l175 => ?_
    refine wo_nil (tq_n (wk ⟨[(0,y),(1,vP n1 0),(3,vI x101),(4,vP H102.next 0),(5,vI 1),(6,vP H123.next 0),(7,vI x101),(10,.agg #[vI x0,vI x1,vI x2,vI x3,vI x4,vI x5,vI x6,vI x7]),(11,vI 1)],34,[],H172⟩ rfl ?_))
    refine w_seq (w_region (mv (vI x101) rfl rfl ?_))
    refine mv (vI 1) rfl rfl ?_
    refine sv_int rfl rfl rfl (opv_shift rfl rfl rfl rfl rfl (by omega) (.inr ⟨rfl,rfl⟩)) ?_
    intro x177 h178
    refine sv_int rfl rfl rfl (opv_bin rfl rfl rfl rfl rfl rfl) ?_
    intro x179 h180
    try replace h180:x179=((BitVec.ofInt 64 x177 &&& BitVec.ofInt 64 1).toNat:Int):=wr_ex h180 (by omega) (by omega)
    by_cases c181:x179=1
    ·
     refine sv (v:=.bool true) rfl rfl rfl (opv_bin rfl rfl rfl rfl rfl (eqT c181)) rfl ?_
     refine wo_nil (tq_n (wk ⟨[(0,y),(1,vP n1 0),(3,vI x101),(4,vP H102.next 0),(5,vI 1),(6,vP H123.next 0),(7,vI x101),(10,.agg #[vI x0,vI x1,vI x2,vI x3,vI x4,vI x5,vI x6,vI x7]),(11,vI 1),(23,.bool true)],34,[],H172⟩ rfl ?_))
     refine w_cond (t:=true) rfl rfl (fun _ => ?_) (fun h => by cases h)
     refine w_region (mv (vI 1) rfl rfl ?_)
     refine sv (v:=vP H123.next 1) rfl rfl rfl (opv_fieldAddrE rfl rfl rfl Try.underlying23 rfl sz3 (by decide) rfl) rfl ?_
     refine sv (v:=vI x3) rfl rfl rfl (opv_loadE rfl rfl rfl ag3 sz3 ((f173.get H123.next (by omega)).trans f168.blk) rfl (.inr rfl) rfl) rfl ?_
     refine sv (v:=vP H102.next 1) rfl rfl rfl (opv_indexAddrArrE rfl rfl rfl rfl rfl Try.underlying83 sz3 (by decide) (by decide) rfl) rfl ?_
     refine sv_put (H:=H172) (n:=H102.next) (v:=undef) (x:=some (.row #[vI x119,vI x3,vI x121,vI x122] .raw)) rfl rfl rfl rfl (opv_storeC (u:=vI x3) rfl rfl rfl rfl rfl neI sz3 rfl rfl rfl f173.blk rfl rfl) ?_
     intro H182 f183
     refine putL w174 f183 f173.blk fun n186 w184 l185 => ?_
     refine wo_nil ?_
     try refine q_eq (e':=.normal) rfl ?_
     refine tqk ⟨[(0,y),(1,vP n1 0),(3,vI x101),(4,vP H102.next 0),(7,vI x101),(10,.agg #[vI x0,vI x1,vI x2,vI x3,vI x4,vI x5,vI x6,vI x7]),(11,vI 1)],34,[],H182⟩ rfl ?_
     refine w_region (sv (v:=vI 2) rfl rfl rfl (opv_bin rfl rfl rfl rfl rfl rfl) rfl ?_)
     refine mv (vI 2) rfl rfl ?_
     refine wo_nil ?_
     refine tq_n ⟨((4:Int) - 2).toNat,by omega,⟨[(0,y),(1,vP n1 0),(3,vI x101),(4,vP H102.next 0),(7,vI x101),(10,.agg #[vI x0,vI x1,vI x2,vI x3,vI x4,vI x5,vI x6,vI x7]),(11,vI 2)],34,[],H182⟩,subk rfl,2,x119,x3,x121,x122,H182,by omega,by omega,by omega,f183.blk,w184,(((l129.trans l165).trans l170).trans l175).trans l185,((((((KeepX.refl (fun m => X m∨m=H102.next) H113).trans k130 (fun m hm => hm.elim (fun h => .inl (.inl h)) (by intro h; first | (right; omega) | (left; right; omega) | (left; (try dsimp only) <;> omega)))).new_ f163).put f168 (by first | (right; omega) | (left; right; omega) | (left; (try dsimp only) <;> omega))).put f173 (by first | (right; omega) | (left; right; omega) | (left; (try dsimp only) <;> omega))).put f183 (by first | (right; omega) | (left; right; omega) | (left; (try dsimp only) <;> omega))),(hJs _ _ hj133 (by omega) (((((KeepX.refl (fun m => H1.next ≤ m∨False) H123).new_ f163).put f168 (by left; left; omega)).put f173 (by left; left; omega)).put f183 (by left; left; omega)) (((l165.trans l170).trans l175).trans l185)),rfl,rfl⟩
    ·
     refine sv (v:=.bool false) rfl rfl rfl (opv_bin rfl rfl rfl rfl rfl (eqF c181)) rfl ?_
     refine wo_nil (tq_n (wk ⟨[(0,y),(1,vP n1 0),(3,vI x101),(4,vP H102.next 0),(5,vI 1),(6,vP H123.next 0),(7,vI x101),(10,.agg #[vI x0,vI x1,vI x2,vI x3,vI x4,vI x5,vI x6,vI x7]),(11,vI 1),(23,.bool false)],34,[],H172⟩ rfl ?_))
     refine w_cond (t:=false) rfl rfl (fun h => by cases h) (fun _ => ?_)
     refine w_skip ?_
     try refine q_eq (e':=.normal) rfl ?_
     refine tqk ⟨[(0,y),(1,vP n1 0),(3,vI x101),(4,vP H102.next 0),(7,vI x101),(10,.agg #[vI x0,vI x1,vI x2,vI x3,vI x4,vI x5,vI x6,vI x7]),(11,vI 1)],34,[],H172⟩ rfl ?_
     refine w_region (sv (v:=vI 2) rfl rfl rfl (opv_bin rfl rfl rfl rfl rfl rfl) rfl ?_)
     refine mv (vI 2) rfl rfl ?_
     refine wo_nil ?_
     refine tq_n ⟨((4:Int) - 2).toNat,by omega,⟨[(0,y),(1,vP n1 0),(3,vI x101),(4,vP H102.next 0),(7,vI x101),(10,.agg #[vI x0,vI x1,vI x2,vI x3,vI x4,vI x5,vI x6,vI x7]),(11,vI 2)],34,[],H172⟩,subk rfl,2,x119,x2,x121,x122,H172,by omega,by omega,by omega,f173.blk,w174,((l129.trans l165).trans l170).trans l175,(((((KeepX.refl (fun m => X m∨m=H102.next) H113).trans k130 (fun m hm => hm.elim (fun h => .inl (.inl h)) (by intro h; first | (right; omega) | (left; right; omega) | (left; (try dsimp only) <;> omega)))).new_ f163).put f168 (by first | (right; omega) | (left; right; omega) | (left; (try dsimp only) <;> omega))).put f173 (by first | (right; omega) | (left; right; omega) | (left; (try dsimp only) <;> omega))),(hJs _ _ hj133 (by omega) ((((KeepX.refl (fun m => H1.next ≤ m∨False) H123).new_ f163).put f168 (by left; left; omega)).put f173 (by left; left; omega)) ((l165.trans l170).trans l175)),rfl,rfl⟩
   ·
    refine sv (v:=.agg #[vI x4,vI x5]) rfl rfl rfl (opv_indexArrE rfl rfl rfl rfl rfl Try.underlying87 ag23 sz23 (by decide) (by decide) (.inl rfl) rfl) rfl ?_
    refine sv_new (H:=H123) (v:=vP H123.next 0) (x:=.row #[vI 0,vI 0] .raw) rfl rfl rfl rfl (opv_alloc rfl ze23 rfl) ?_
    intro H187 f188
    refine newL w128 f188 fun n191 w189 l190 => ?_
    refine mv (vI 2) rfl rfl ?_
    refine sv_put (H:=H187) (n:=H123.next) (v:=undef) (x:=some (.row #[vI x4,vI x5] .raw)) rfl rfl rfl rfl (opv_storeC (u:=.agg #[vI x4,vI x5]) rfl rfl rfl rfl rfl (by simp [undef]) sz23 rfl rfl rfl f188.blk rfl rfl) ?_
    intro H192 f193
    refine putL w189 f193 f188.blk fun n196 w194 l195 => ?_
    refine wo_nil (tq_n (wk ⟨[(0,y),(1,vP n1 0),(3,vI x101),(4,vP H102.next 0),(5,vI 2),(6,vP H123.next 0),(7,vI x101),(10,.agg #[vI x0,vI x1,vI x2,vI x3,vI x4,vI x5,vI x6,vI x7]),(11,vI 2)],34,[],H192⟩ rfl ?_))
    refine w_seq (w_region (mv (vI 2) rfl rfl ?_))
    refine sv (v:=vP H123.next 0) rfl rfl rfl (opv_fieldAddrE rfl rfl rfl Try.underlying23 rfl sz3 (by decide) rfl) rfl ?_
    refine sv (v:=vI x4) rfl rfl rfl (opv_loadE rfl rfl rfl ag3 sz3 f193.blk rfl (.inr rfl) rfl) rfl ?_
    refine sv (v:=vP H102.next 2) rfl rfl rfl (opv_indexAddrArrE rfl rfl rfl rfl rfl Try.underlying83 sz3 (by decide) (by decide) rfl) rfl ?_
    refine sv_put (H:=H192) (n:=H102.next) (v:=undef) (x:=some (.row #[vI x119,vI x120,vI x4,vI x122] .raw)) rfl rfl rfl rfl (opv_storeC (u:=vI x4) rfl rfl rfl rfl rfl neI sz3 rfl rfl rfl ((f193.get H102.next (by omega)).trans ((f188.get H102.next (by omega)).trans hb127)) rfl rfl) ?_
    intro H197 f198
    refine putL w194 f198 ((f193.get H102.next (by omega)).trans ((f188.get H102.next (by omega)).trans hb127)) fun n201 w199 l200 => ?_
    refine wo_nil (tq_n (wk ⟨[(0,y),(1,vP n1 0),(3,vI x101),(4,vP H102.next 0),(5,vI 2),(6,vP H123.next 0),(7,vI x101),(10,.agg #[vI x0,vI x1,vI x2,vI x3,vI x4,vI x5,vI x6,vI x7]),(11,vI 2)],34,[],H197⟩ rfl ?_))
    refine w_seq (w_region (mv (vI x101) rfl rfl ?_))
    refine mv (vI 2) rfl rfl ?_
    refine sv_int rfl rfl rfl (opv_shift rfl rfl rfl rfl rfl (by omega) (.inr ⟨rfl,rfl⟩)) ?_
    intro x202 h203
    refine sv_int rfl rfl rfl (opv_bin rfl rfl rfl rfl rfl rfl) ?_
    intro x204 h205
    try replace h205:x204=((BitVec.ofInt 64 x202 &&& BitVec.ofInt 64 1).toNat:Int):=wr_ex h205 (by omega) (by omega)
    by_cases c206:x204=1
    ·
     refine sv (v:=.bool true) rfl rfl rfl (opv_bin rfl rfl rfl rfl rfl (eqT c206)) rfl ?_
     refine wo_nil (tq_n (wk ⟨[(0,y),(1,vP n1 0),(3,vI x101),(4,vP H102.next 0),(5,vI 2),(6,vP H123.next 0),(7,vI x101),(10,.agg #[vI x0,vI x1,vI x2,vI x3,vI x4,vI x5,vI x6,vI x7]),(11,vI 2),(23,.bool true)],34,[],H197⟩ rfl ?_))
     refine w_cond (t:=true) rfl rfl (fun _ => ?_) (fun h => by cases h)
     refine w_region (mv (vI 2) rfl rfl ?_)
     refine sv (v:=vP H123.next 1) rfl rfl rfl (opv_fieldAddrE rfl rfl rfl Try.underlying23 rfl sz3 (by decide) rfl) rfl ?_
     refine sv (v:=vI x5) rfl rfl rfl (opv_loadE rfl rfl rfl ag3 sz3 ((f198.get H123.next (by omega)).trans f193.blk) rfl (.inr rfl) rfl) rfl ?_
     refine sv (v:=vP H102.next 2) rfl rfl rfl (opv_indexAddrArrE rfl rfl rfl rfl rfl Try.underlying83 sz3 (by decide) (by decide) rfl) rfl ?_
     refine sv_put (H:=H197) (n:=H102.next) (v:=undef) (x:=some (.row #[vI x119,vI x120,vI x5,vI x122] .raw)) rfl rfl rfl rfl (opv_storeC (u:=vI x5) rfl rfl rfl rfl rfl neI sz3 rfl rfl rfl f198.blk rfl rfl) ?_
     intro H207 f208
     refine putL w199 f208 f198.blk fun n211 w209 l210 => ?_
     refine wo_nil ?_
     try refine q_eq (e':=.normal) rfl ?_
     refine tqk ⟨[(0,y),(1,vP n1 0),(3,vI x101),(4,vP H102.next 0),(7,vI x101),(10,.agg #[vI x0,vI x1,vI x2,vI x3,vI x4,vI x5,vI x6,vI x7]),(11,vI 2)],34,[],H207⟩ rfl ?_
     refine w_region (sv (v:=vI 3) rfl rfl rfl (opv_bin rfl rfl rfl rfl rfl rfl) rfl ?_)
     refine mv (vI 3) rfl rfl ?_
     refine wo_nil ?_
     refine tq_n ⟨((4:Int) - 3).toNat,by omega,⟨[(0,y),(1,vP n1 0),(3,vI x101),(4,vP H102.next 0),(7,vI x101),(10,.agg #[vI x0,vI x1,vI x2,vI x3,vI x4,vI x5,vI x6,vI x7]),(11,vI 3)],34,[],H207⟩,subk rfl,3,x119,x120,x5,x122,H207,by omega,by omega,by omega,f208.blk,w209,(((l129.trans l190).trans l195).trans l200).trans l210,((((((KeepX.refl (fun m => X m∨m=H102.next) H113).trans k130 (fun m hm => hm.elim (fun h => .inl (.inl h)) (by intro h; first | (right; omega) | (left; right; omega) | (left; (try dsimp only) <;> omega)))).new_ f188).put f193 (by first | (right; omega) | (left; right; omega) | (left; (try dsimp only) <;> omega))).put f198 (by first | (right; omega) | (left; right; omega) | (left; (try dsimp only) <;> omega))).put f208 (by first | (right; omega) | (left; right; omega) | (left; (try dsimp only) <;> omega))),(hJs _ _ hj133 (by omega) (((((KeepX.refl (fun m => H1.next ≤ m∨False) H123).new_ f188).put f193 (by left; left; omega)).put f198 (by left; left; omega)).put f208 (by left; left; omega)) (((l190.trans l195).trans l200).trans l210)),rfl,rfl⟩
    ·
     refine sv (v:=.bool false) rfl rfl rfl (opv_bin rfl rfl rfl rfl rfl (eqF c206)) rfl ?_
     refine wo_nil (tq_n (wk ⟨[(0,y),(1,vP n1 0),(3,vI x101),(4,vP H102.next 0),(5,vI 2),(6,vP H123.next 0),(7,vI x101),(10,.agg #[vI x0,vI x1,vI x2,vI x3,vI x4,vI x5,vI x6,vI x7]),(11,vI 2),(23,.bool false)],34,[],H197⟩ rfl ?_))
     refine w_cond (t:=false) rfl rfl (fun h => by cases h) (fun _ => ?_)
     refine w_skip ?_
     try refine q_eq (e':=.normal) rfl ?_
     refine tqk ⟨[(0,y),(1,vP n1 0),(3,vI x101),(4,vP H102.next 0),(7,vI x101),(10,.agg #[vI x0,vI x1,vI x2,vI x3,vI x4,vI x5,vI x6,vI x7]),(11,vI 2)],34,[],H197⟩ rfl ?_
     refine w_region (sv (v:=vI 3) rfl rfl rfl (opv_bin rfl rfl rfl rfl rfl rfl) rfl ?_)
     refine mv (vI 3) rfl rfl ?_
     refine wo_nil ?_
     refine tq_n ⟨((4:Int) - 3).toNat,by omega,⟨[(0,y),(1,vP n1 0),(3,vI x101),(4,vP H102.next 0),(7,vI x101),(10,.agg #[vI x0,vI x1,vI x2,vI x3,vI x4,vI x5,vI x6,vI x7]),(11,vI 3)],34,[],H197⟩,subk rfl,3,x119,x120,x4,x122,H197,by omega,by omega,by omega,f198.blk,w199,((l129.trans l190).trans l195).trans l200,(((((KeepX.refl (fun m => X m∨m=H102.next) H113).trans k130 (fun m hm => hm.elim (fun h => .inl (.inl h)) (by intro h; first | (right; omega) | (left; right; omega) | (left; (try dsimp only) <;> omega)))).new_ f188).put f193 (by first | (right; omega) | (left; right; omega) | (left; (try dsimp only) <;> omega))).put f198 (by first | (right; omega) | (left; right; omega) | (left; (try dsimp only) <;> omega))),(hJs _ _ hj133 (by omega) ((((KeepX.refl (fun m => H1.next ≤ m∨False) H123).new_ f188).put f193 (by left; left; omega)).put f198 (by left; left; omega)) ((l190.trans l195).trans l200)),rfl,rfl⟩
   ·
    refine sv (v:=.agg #[vI x6,vI x7]) rfl rfl rfl (opv_indexArrE rfl rfl rfl rfl rfl Try.underlying87 ag23 sz23 (by decide) (by decide) (.inl rfl) rfl) rfl ?_
    refine sv_new (H:=H123) (v:=vP H123.next 0) (x:=.row #[vI 0,vI 0] .raw) rfl rfl rfl rfl (opv_alloc rfl ze23 rfl) ?_
    intro H212 f213
    refine newL w128 f213 fun n216 w214 l215 => ?_
    refine mv (vI 3) rfl rfl ?_
    refine sv_put (H:=H212) (n:=H123.next) (v:=undef) (x:=some (.row #[vI x6,vI x7] .raw)) rfl rfl rfl rfl (opv_storeC (u:=.agg #[vI x6,vI x7]) rfl rfl rfl rfl rfl (by simp [undef]) sz23 rfl rfl rfl f213.blk rfl rfl) ?_
    intro H217 f218
    refine putL w214 f218 f213.blk fun n221 w219 l220 => ?_
    refine wo_nil (tq_n (wk ⟨[(0,y),(1,vP n1 0),(3,vI x101),(4,vP H102.next 0),(5,vI 3),(6,vP H123.next 0),(7,vI x101),(10,.agg #[vI x0,vI x1,vI x2,vI x3,vI x4,vI x5,vI x6,vI x7]),(11,vI 3)],34,[],H217⟩ rfl ?_))
    refine w_seq (w_region (mv (vI 3) rfl rfl ?_))
    refine sv (v:=vP H123.next 0) rfl rfl rfl (opv_fieldAddrE rfl rfl rfl Try.underlying23 rfl sz3 (by decide) rfl) rfl ?_
    refine sv (v:=vI x6) rfl rfl rfl (opv_loadE rfl rfl rfl ag3 sz3 f218.blk rfl (.inr rfl) rfl) rfl ?_
    refine sv (v:=vP H102.next 3) rfl rfl rfl (opv_indexAddrArrE rfl rfl rfl rfl rfl Try.underlying83 sz3 (by decide) (by decide) rfl) rfl ?_
    refine sv_put (H:=H217) (n:=H102.next) (v:=undef) (x:=some (.row #[vI x119,vI x120,vI x121,vI x6] .raw)) rfl rfl rfl rfl (opv_storeC (u:=vI x6) rfl rfl rfl rfl rfl neI sz3 rfl rfl rfl ((f218.get H102.next (by omega)).trans ((f213.get H102.next (by omega)).trans hb127)) rfl rfl) ?_
    intro H222 f223
    refine putL w219 f223 ((f218.get H102.next (by omega)).trans ((f213.get H102.next (by omega)).trans hb127)) fun n226 w224 l225 => ?_
    refine wo_nil (tq_n (wk ⟨[(0,y),(1,vP n1 0),(3,vI x101),(4,vP H102.next 0),(5,vI 3),(6,vP H123.next 0),(7,vI x101),(10,.agg #[vI x0,vI x1,vI x2,vI x3,vI x4,vI x5,vI x6,vI x7]),(11,vI 3)],34,[],H222⟩ rfl ?_))
    refine w_seq (w_region (mv (vI x101) rfl rfl ?_))
    refine mv (vI 3) rfl rfl ?_
    refine sv_int rfl rfl rfl (opv_shift rfl rfl rfl rfl rfl (by omega) (.inr ⟨rfl,rfl⟩)) ?_
    intro x227 h228
    refine sv_int rfl rfl rfl (opv_bin rfl rfl rfl rfl rfl rfl) ?_
    intro x229 h230
    try replace h230:x229=((BitVec.ofInt 64 x227 &&& BitVec.ofInt 64 1).toNat:Int):=wr_ex h230 (by omega) (by omega)
    by_cases c231:x229=1
    ·
     refine sv (v:=.bool true) rfl rfl rfl (opv_bin rfl rfl rfl rfl rfl (eqT c231)) rfl ?_
     refine wo_nil (tq_n (wk ⟨[(0,y),(1,vP n1 0),(3,vI x101),(4,vP H102.next 0),(5,vI 3),(6,vP H123.next 0),(7,vI x101),(10,.agg #[vI x0,vI x1,vI x2,vI x3,vI x4,vI x5,vI x6,vI x7]),(11,vI 3),(23,.bool true)],34,[],H222⟩ rfl ?_))
     refine w_cond (t:=true) rfl rfl (fun _ => ?_) (fun h => by cases h)
     refine w_region (mv (vI 3) rfl rfl ?_)
     refine sv (v:=vP H123.next 1) rfl rfl rfl (opv_fieldAddrE rfl rfl rfl Try.underlying23 rfl sz3 (by decide) rfl) rfl ?_
     refine sv (v:=vI x7) rfl rfl rfl (opv_loadE rfl rfl rfl ag3 sz3 ((f223.get H123.next (by omega)).trans f218.blk) rfl (.inr rfl) rfl) rfl ?_
     refine sv (v:=vP H102.next 3) rfl rfl rfl (opv_indexAddrArrE rfl rfl rfl rfl rfl Try.underlying83 sz3 (by decide) (by decide) rfl) rfl ?_
     refine sv_put (H:=H222) (n:=H102.next) (v:=undef) (x:=some (.row #[vI x119,vI x120,vI x121,vI x7] .raw)) rfl rfl rfl rfl (opv_storeC (u:=vI x7) rfl rfl rfl rfl rfl neI sz3 rfl rfl rfl f223.blk rfl rfl) ?_
     intro H232 f233
     refine putL w224 f233 f223.blk fun n236 w234 l235 => ?_
     refine wo_nil ?_
     try refine q_eq (e':=.normal) rfl ?_
     refine tqk ⟨[(0,y),(1,vP n1 0),(3,vI x101),(4,vP H102.next 0),(7,vI x101),(10,.agg #[vI x0,vI x1,vI x2,vI x3,vI x4,vI x5,vI x6,vI x7]),(11,vI 3)],34,[],H232⟩ rfl ?_
     refine w_region (sv (v:=vI 4) rfl rfl rfl (opv_bin rfl rfl rfl rfl rfl rfl) rfl ?_)
     refine mv (vI 4) rfl rfl ?_
     refine wo_nil ?_
     refine tq_n ⟨((4:Int) - 4).toNat,by omega,⟨[(0,y),(1,vP n1 0),(3,vI x101),(4,vP H102.next 0),(7,vI x101),(10,.agg #[vI x0,vI x1,vI x2,vI x3,vI x4,vI x5,vI x6,vI x7]),(11,vI 4)],34,[],H232⟩,subk rfl,4,x119,x120,x121,x7,H232,by omega,by omega,by omega,f233.blk,w234,(((l129.trans l215).trans l220).trans l225).trans l235,((((((KeepX.refl (fun m => X m∨m=H102.next) H113).trans k130 (fun m hm => hm.elim (fun h => .inl (.inl h)) (by intro h; first | (right; omega) | (left; right; omega) | (left; (try dsimp only) <;> omega)))).new_ f213).put f218 (by first | (right; omega) | (left; right; omega) | (left; (try dsimp only) <;> omega))).put f223 (by first | (right; omega) | (left; right; omega) | (left; (try dsimp only) <;> omega))).put f233 (by first | (right; omega) | (left; right; omega) | (left; (try dsimp only) <;> omega))),(hJs _ _ hj133 (by omega) (((((KeepX.refl (fun m => H1.next ≤ m∨False) H123).new_ f213).put f218 (by left; left; omega)).put f223 (by left; left; omega)).put f233 (by left; left; omega)) (((l215.trans l220).trans l225).trans l235)),rfl,rfl⟩
    ·
     refine sv (v:=.bool false) rfl rfl rfl (opv_bin rfl rfl rfl rfl rfl (eqF c231)) rfl ?_
     refine wo_nil (tq_n (wk ⟨[(0,y),(1,vP n1 0),(3,vI x101),(4,vP H102.next 0),(5,vI 3),(6,vP H123.next 0),(7,vI x101),(10,.agg #[vI x0,vI x1,vI x2,vI x3,vI x4,vI x5,vI x6,vI x7]),(11,vI 3),(23,.bool false)],34,[],H222⟩ rfl ?_))
     refine w_cond (t:=false) rfl rfl (fun h => by cases h) (fun _ => ?_)
     refine w_skip ?_
     try refine q_eq (e':=.normal) rfl ?_
     refine tqk ⟨[(0,y),(1,vP n1 0),(3,vI x101),(4,vP H102.next 0),(7,vI x101),(10,.agg #[vI x0,vI x1,vI x2,vI x3,vI x4,vI x5,vI x6,vI x7]),(11,vI 3)],34,[],H222⟩ rfl ?_
     refine w_region (sv (v:=vI 4) rfl rfl rfl (opv_bin rfl rfl rfl rfl rfl rfl) rfl ?_)
     refine mv (vI 4) rfl rfl ?_
     refine wo_nil ?_
     refine tq_n ⟨((4:Int) - 4).toNat,by omega,⟨[(0,y),(1,vP n1 0),(3,vI x101),(4,vP H102.next 0),(7,vI x101),(10,.agg #[vI x0,vI x1,vI x2,vI x3,vI x4,vI x5,vI x6,vI x7]),(11,vI 4)],34,[],H222⟩,subk rfl,4,x119,x120,x121,x6,H222,by omega,by omega,by omega,f223.blk,w224,((l129.trans l215).trans l220).trans l225,(((((KeepX.refl (fun m => X m∨m=H102.next) H113).trans k130 (fun m hm => hm.elim (fun h => .inl (.inl h)) (by intro h; first | (right; omega) | (left; right; omega) | (left; (try dsimp only) <;> omega)))).new_ f213).put f218 (by first | (right; omega) | (left; right; omega) | (left; (try dsimp only) <;> omega))).put f223 (by first | (right; omega) | (left; right; omega) | (left; (try dsimp only) <;> omega))),(hJs _ _ hj133 (by omega) ((((KeepX.refl (fun m => H1.next ≤ m∨False) H123).new_ f213).put f218 (by left; left; omega)).put f223 (by left; left; omega)) ((l215.trans l220).trans l225)),rfl,rfl⟩
  ·
   refine sv (v:=.bool false) rfl rfl rfl (opv_bin rfl rfl rfl rfl rfl (cmpF rfl c135)) rfl ?_
   refine wo_nil (tq_n (wk ⟨[(0,y),(1,vP n1 0),(3,vI x101),(4,vP H102.next 0),(7,vI x101),(10,.agg #[vI x0,vI x1,vI x2,vI x3,vI x4,vI x5,vI x6,vI x7]),(11,vI x118),(12,.bool false)],34,[],H123⟩ rfl ?_))
   refine w_seq (w_cond (t:=false) rfl rfl (fun h => by cases h) (fun _ => ?_))
   refine w_exit (tq_e (tq_e ?_))
   try refine q_eq (e':=.normal) rfl ?_
   refine tqk ⟨[(0,y),(1,vP n1 0),(4,vP H102.next 0),(7,vI x101)],34,[],H123⟩ rfl ?_
   refine w_seq (w_region (mv y rfl rfl ?_))
   refine sv (v:=.agg #[vI x119,vI x120,vI x121,vI x122]) rfl rfl rfl (opv_loadE rfl rfl rfl ag83 sz83 hb127 rfl (.inl rfl) rfl) rfl ?_
   refine sc_ (H:=H123) (vs:=[.agg #[vI x119,vI x120,vI x121,vI x122]]) (fv:=y) rfl rfl rfl rfl rfl rfl (.cons rfl rfl (by simp [undef]) .nil) rfl ?_
   refine WV.mono (hy _ _ hj133 w128 (by omega) ⟨_,_,rfl,⟨[vI x119,vI x120,vI x121,vI x122],⟨_,_,rfl,.int _ _,⟨_,_,rfl,.int _ _,⟨_,_,rfl,.int _ _,⟨_,_,rfl,.int _ _,rfl⟩⟩⟩⟩,rfl⟩,rfl⟩ (show x119 ≠ 0 by omega)) ?_
   rintro v243 H244 ⟨b242,rfl,w237,l238,k239,h240,h241⟩
   have n245:=k239.next
   rcases b242 with _ | _
   ·
    refine sv (v:=.bool true) rfl rfl rfl (opv_not (b:=false) rfl rfl rfl) rfl ?_
    refine wo_nil (tq_n (wk ⟨[(0,y),(1,vP n1 0),(7,vI x101),(32,.bool true)],34,[],H244⟩ rfl ?_))
    refine w_cond (t:=true) rfl rfl (fun _ => ?_) (fun h => by cases h)
    refine w_ret ?_
    try refine q_eq (e':=.ret) rfl ?_
    refine tq_r (tq_r ?_)
    try refine q_eq (e':=.ret) rfl ?_
    exact ⟨.inr rfl,rfl,[],.nil,w237,((l106.trans l116).trans l129).trans l238,(((((KeepX.refl (fun m => X m) H1).trans k107 (fun m hm => .inl hm)).new_ f114).trans k130 (fun m hm => hm.elim (fun h => .inl h) (by intro h; first | (right; omega) | (left; right; omega) | (left; (try dsimp only) <;> omega)))).trans k239 (fun m hm => .inl hm)).weak (fun m h => .inl h),.inr (h241 rfl)⟩
   ·
    refine sv (v:=.bool false) rfl rfl rfl (opv_not (b:=true) rfl rfl rfl) rfl ?_
    refine wo_nil (tq_n (wk ⟨[(0,y),(1,vP n1 0),(7,vI x101),(32,.bool false)],34,[],H244⟩ rfl ?_))
    refine w_cond (t:=false) rfl rfl (fun h => by cases h) (fun _ => ?_)
    refine w_skip ?_
    try refine q_eq (e':=.normal) rfl ?_
    refine tqk ⟨[(0,y),(1,vP n1 0),(7,vI x101)],34,[],H244⟩ rfl ?_
    refine w_region (sv_int rfl rfl rfl (opv_bin rfl rfl rfl rfl rfl rfl) ?_)
    intro x246 h247
    try replace h247:x246=x101 + 1:=wr_ex h247 (by omega) (by omega)
    refine mv (vI x246) rfl rfl ?_
    refine wo_nil ?_
    refine tq_n ⟨((16:Int) - x246).toNat,by omega,⟨[(0,y),(1,vP n1 0),(7,vI x246)],34,[],H244⟩,subk rfl,x246,H244,by omega,by omega,w237,((l106.trans l116).trans l129).trans l238,(((((KeepX.refl (fun m => X m) H1).trans k107 (fun m hm => .inl hm)).new_ f114).trans k130 (fun m hm => hm.elim (fun h => .inl h) (by intro h; first | (right; omega) | (left; right; omega) | (left; (try dsimp only) <;> omega)))).trans k239 (fun m hm => .inl hm)),h240 rfl,rfl,rfl⟩
 ·
  refine sv (v:=.bool false) rfl rfl rfl (opv_bin rfl rfl rfl rfl rfl (cmpF rfl c112)) rfl ?_
  refine wo_nil (tq_n (wk ⟨[(0,y),(1,vP n1 0),(7,vI x101),(8,.bool false)],34,[],H102⟩ rfl ?_))
  refine w_seq (w_cond (t:=false) rfl rfl (fun h => by cases h) (fun _ => ?_))
  refine w_exit (tq_e (tq_e ?_))
  try refine q_eq (e':=.normal) rfl ?_
  exact ⟨.inl rfl,rfl,[],.nil,w105,l106,((KeepX.refl (fun m => X m) H1).trans k107 (fun m hm => .inl hm)).weak (fun m h => .inl h),.inl hj110⟩

theorem tide_reach_ok (sq1:Value) (C2:Nat→Prop) (Y:List Value→Prop) (fn3:Value) (H:SH) (wt:WT H) (hqsq1:SeqOK Try.prog sq1 [(true,[.int .i64,.int .i64,.int .i64,.int .i64])] Y C2 (fun _ => False) H) (hffn3:FnOK Try.prog fn3 [(true,[.int .i64,.int .i64,.int .i64,.int .i64])] [(false,[.int .i64])] Y H):WC Try.prog 39 [sq1,fn3] H (fun v H' => Keep H H'∧WT H'∧∃ (rx1 rx2:Int),v=(.agg #[vI rx1,vI rx2])):=by
 refine wc_of_body_marks Try.func39 rfl ?_
 refine wk ⟨[(0,sq1),(1,fn3)],28,[],H⟩ rfl ?_
 refine w_seq (w_region (sv_new (H:=H) (v:=vP H.next 0) (x:=.row #[fn3] .raw) rfl rfl rfl rfl (opv_boxE (v:=fn3) rfl rfl rfl hffn3.1.1 hffn3.1.2.1) ?_))
 intro H101 f102
 refine newL wt f102 fun n105 w103 l104 => ?_
 refine sv_new (H:=H101) (v:=vP H101.next 0) (x:=.row #[vI 0,vI 0] .raw) rfl rfl rfl rfl (opv_alloc rfl ze23 rfl) ?_
 intro H106 f107
 refine newL w103 f107 fun n110 w108 l109 => ?_
 refine wo_nil (tq_n (wk ⟨[(0,sq1),(3,vP H.next 0),(4,vP H101.next 0)],28,[],H106⟩ rfl ?_))
 refine w_seq (w_region (sv_new (H:=H106) (v:=vP H106.next 0) (x:=.row #[vI 0,vI 0] .raw) rfl rfl rfl rfl (opv_alloc rfl ze23 rfl) ?_))
 intro H111 f112
 refine newL w108 f112 fun n115 w113 l114 => ?_
 refine wo_nil (tq_n (wk ⟨[(0,sq1),(3,vP H.next 0),(4,vP H101.next 0),(5,vP H106.next 0)],28,[],H111⟩ rfl ?_))
 refine w_seq (w_region (sv_new (H:=H111) (v:=vP H111.next 0) (x:=.row #[.bool false] .raw) rfl rfl rfl rfl (opv_alloc rfl ze4 rfl) ?_))
 intro H116 f117
 refine newL w113 f117 fun n120 w118 l119 => ?_
 refine sv_put (H:=H116) (n:=H111.next) (v:=undef) (x:=some (.row #[.bool true] .raw)) rfl rfl rfl rfl (opv_storeC (u:=.bool true) rfl rfl rfl rfl rfl (by simp [undef]) sz4 rfl rfl rfl f117.blk rfl rfl) ?_
 intro H121 f122
 refine putL w118 f122 f117.blk fun n125 w123 l124 => ?_
 refine wo_nil (tq_n (wk ⟨[(0,sq1),(3,vP H.next 0),(4,vP H101.next 0),(5,vP H106.next 0),(6,vP H111.next 0)],28,[],H121⟩ rfl ?_))
 refine w_seq (w_seq (w_region (mv sq1 rfl rfl ?_)))
 refine wo_nil (tq_n (wk ⟨[(3,vP H.next 0),(4,vP H101.next 0),(5,vP H106.next 0),(6,vP H111.next 0),(9,sq1)],28,[],H121⟩ rfl ?_))
 refine w_block ?_
 refine w_range' (e:=[(true,[.int .i64,.int .i64,.int .i64,.int .i64])]) (Y:=Y) (C:=C2) (M:=fun _ => False) (Hq:=H) rfl rfl hqsq1 ((((((KeepX.refl (fun m => ¬ C2 m) H).new_ f102).new_ f107).new_ f112).new_ f117).put f122 (by left; intro h; have:=hqsq1.1 _ h; omega)) ((((l104.trans l109).trans l114).trans l119).trans l124) w123 rfl (by simp) (fun m => m=H106.next∨m=H111.next) (fun A => ∃ (x126 x127:Int) (b128:Bool),A.get H106.next=some (.row #[vI x126,vI x127] .raw)∧A.get H111.next=some (.row #[.bool b128] .raw)) (fun x A => False) (fun m hm => ⟨by (try dsimp only at hm); intro h; have:=hqsq1.1 _ h; omega,by (try dsimp only at hm); omega⟩) ?_ ?_ ?_ ?_ ?_ ?_
 ·
  intro H131 _ k132 w133
  have n134:=k132.next
  have l135:=k132.le
  exact ⟨0,0,true,(k132.get H106.next (by omega)).trans ((f122.get H106.next (by omega)).trans ((f117.get H106.next (by omega)).trans f112.blk)),(k132.get H111.next (by omega)).trans f122.blk⟩
 ·
  rintro A136 A137 ⟨x126,x127,b128,hb129,hb130⟩ n138 k139 l140
  exact ⟨x126,x127,b128,((k139.get _ (by omega) (fun h => h.elim (fun h => by omega) id)).trans hb129),((k139.get _ (by omega) (fun h => h.elim (fun h => by omega) id)).trans hb130)⟩
 ·
  rintro x A A2 h; exact h.elim
 ·
  rintro A141 as142 w143 l144 k145 n146 hr147 ⟨x126,x127,b128,hb129,hb130⟩ ha148 hY149
  replace k145:=k145.weak (Y:=fun m => m=H106.next∨m=H111.next) (fun m h => h.elim id False.elim)
  obtain ⟨v150,r151,rfl,⟨us152,hu153,rfl⟩,ha148⟩:=ha148
  replace hu153:VTs A141 [.int .i64,.int .i64,.int .i64,.int .i64] us152:=hu153
  obtain ⟨x156,r154,rfl,hs155⟩:=vts_int hu153
  obtain ⟨x159,r157,rfl,hs158⟩:=vts_int hs155
  obtain ⟨x162,r160,rfl,hs161⟩:=vts_int hs158
  obtain ⟨x165,r163,rfl,hs164⟩:=vts_int hs161
  obtain rfl:=vts_nil hs164
  obtain rfl:r151=[]:=ha148
  refine round_start ?_
  refine wk ⟨[(3,vP H.next 0),(5,vP H106.next 0),(6,vP H111.next 0),(10,.agg #[vI x156,vI x159,vI x162,vI x165])],28,[],A141⟩ rfl ?_
  refine w_region (sv_new (H:=A141) (v:=vP A141.next 0) (x:=.row #[vI 0,vI 0,vI 0,vI 0] .raw) rfl rfl rfl rfl (opv_alloc rfl ze83 rfl) ?_)
  intro H166 f167
  refine newL w143 f167 fun n170 w168 l169 => ?_
  refine sv_put (H:=H166) (n:=A141.next) (v:=undef) (x:=some (.row #[vI x156,vI x159,vI x162,vI x165] .raw)) rfl rfl rfl rfl (opv_storeC (u:=.agg #[vI x156,vI x159,vI x162,vI x165]) rfl rfl rfl rfl rfl (by simp [undef]) sz83 rfl rfl rfl f167.blk rfl rfl) ?_
  intro H171 f172
  refine putL w168 f172 f167.blk fun n175 w173 l174 => ?_
  refine wo_nil (⟨rfl,(f172.get (H121.next + 1) (by omega)).trans ((f167.get (H121.next + 1) (by omega)).trans hr147),?_⟩)
  intro H176 f177
  replace f177:PutF H171 (H121.next + 1) _ H176:=f177
  have n180:=f177.next
  have w178:=w173.putO f177 ((f172.get (H121.next + 1) (by omega)).trans ((f167.get (H121.next + 1) (by omega)).trans hr147)) (by simp) (by simp)
  have l179:=Le.putO f177 ((f172.get (H121.next + 1) (by omega)).trans ((f167.get (H121.next + 1) (by omega)).trans hr147)) (by simp)
  refine wk ⟨[(3,vP H.next 0),(5,vP H106.next 0),(6,vP H111.next 0),(7,vP A141.next 0)],28,[],H176⟩ rfl ?_
  refine w_block (w_seq (w_region (sv (v:=fn3) rfl rfl rfl (opv_loadE rfl rfl rfl ag90 sz90 ((f177.get H.next (by omega)).trans ((f172.get H.next (by omega)).trans ((f167.get H.next (by omega)).trans ((k145.get H.next (by omega) (by (try dsimp only); omega)).trans ((f122.get H.next (by omega)).trans ((f117.get H.next (by omega)).trans ((f112.get H.next (by omega)).trans ((f107.get H.next (by omega)).trans f102.blk)))))))) rfl (.inr rfl) rfl) rfl ?_)))
  refine sv (v:=.agg #[vI x156,vI x159,vI x162,vI x165]) rfl rfl rfl (opv_loadE rfl rfl rfl ag83 sz83 ((f177.get A141.next (by omega)).trans f172.blk) rfl (.inl rfl) rfl) rfl ?_
  refine sc_ (H:=H176) (vs:=[.agg #[vI x156,vI x159,vI x162,vI x165]]) (fv:=fn3) rfl rfl rfl rfl rfl rfl (.cons rfl rfl (by simp [undef]) .nil) rfl ?_
  refine WV.mono (hffn3.2 _ (((((((((((KeepX.refl (fun _ => False) H).new_ f102).new_ f107).new_ f112).new_ f117).put f122 (by first | (right; omega) | (left; (try dsimp only) <;> omega))).trans k145 (by intro m hm; (try simp only [false_or,or_false] at hm ⊢); (try dsimp only at hm ⊢); first | omega | (right; omega) | (left; left; omega) | (left; right; omega))).new_ f167).put f172 (by first | (right; omega) | (left; (try dsimp only) <;> omega))).put f177 (by first | (right; omega) | (left; (try dsimp only) <;> omega))).k (fun _ h => h.elim)) w178 _ ⟨_,_,rfl,⟨[vI x156,vI x159,vI x162,vI x165],⟨_,_,rfl,.int _ _,⟨_,_,rfl,.int _ _,⟨_,_,rfl,.int _ _,⟨_,_,rfl,.int _ _,rfl⟩⟩⟩⟩,rfl⟩,rfl⟩ hY149) ?_
  rintro v181 H182 ⟨k183,w184,vs185,hv186,rfl⟩
  have n188:=k183.next
  have l187:=k183.le
  obtain ⟨v192,r191,rfl,⟨us189,hu190,rfl⟩,hv186⟩:=hv186
  obtain rfl:r191=[]:=hv186
  replace hu190:VTs H182 [.int .i64] us189:=hu190
  obtain ⟨x195,r193,rfl,hs194⟩:=vts_int hu190
  obtain rfl:=vts_nil hs194
  refine mv (vI x195) rfl rfl ?_
  refine wo_nil (tq_n (wk ⟨[(5,vP H106.next 0),(6,vP H111.next 0),(8,vI x195)],28,[],H182⟩ rfl ?_))
  refine w_seq (w_seq (w_region (sv (v:=.bool b128) rfl rfl rfl (opv_loadE rfl rfl rfl ag4 sz4 ((k183.get H111.next (by omega)).trans ((f177.get H111.next (by omega)).trans ((f172.get H111.next (by omega)).trans ((f167.get H111.next (by omega)).trans hb130)))) rfl (.inr rfl) rfl) rfl ?_)))
  refine wo_nil (tq_n (wk ⟨[(5,vP H106.next 0),(6,vP H111.next 0),(8,vI x195),(14,.bool b128)],28,[],H182⟩ rfl ?_))
  rcases b128 with _ | _
  ·
   refine w_cond (t:=false) rfl rfl (fun h => by cases h) (fun _ => ?_)
   refine w_skip (tq_n (wk ⟨[(5,vP H106.next 0),(8,vI x195)],28,[],H182⟩ rfl ?_))
   refine w_region (sv (v:=vP H106.next 0) rfl rfl rfl (opv_fieldAddrE rfl rfl rfl Try.underlying23 rfl sz3 (by decide) rfl) rfl ?_)
   refine sv (v:=vI x126) rfl rfl rfl (opv_loadE rfl rfl rfl ag3 sz3 ((k183.get H106.next (by omega)).trans ((f177.get H106.next (by omega)).trans ((f172.get H106.next (by omega)).trans ((f167.get H106.next (by omega)).trans hb129)))) rfl (.inr rfl) rfl) rfl ?_
   refine mv (vI x195) rfl rfl ?_
   refine sv_int rfl rfl rfl (opv_min rfl rfl rfl rfl rfl) ?_
   intro x196 h197
   replace h197:=ite_or h197
   refine sv (v:=vP H106.next 1) rfl rfl rfl (opv_fieldAddrE rfl rfl rfl Try.underlying23 rfl sz3 (by decide) rfl) rfl ?_
   refine sv (v:=vI x127) rfl rfl rfl (opv_loadE rfl rfl rfl ag3 sz3 ((k183.get H106.next (by omega)).trans ((f177.get H106.next (by omega)).trans ((f172.get H106.next (by omega)).trans ((f167.get H106.next (by omega)).trans hb129)))) rfl (.inr rfl) rfl) rfl ?_
   refine mv (vI x195) rfl rfl ?_
   refine sv_int rfl rfl rfl (opv_max rfl rfl rfl rfl rfl) ?_
   intro x198 h199
   replace h199:=ite_or h199
   refine sv (v:=vP H106.next 0) rfl rfl rfl (opv_fieldAddrE rfl rfl rfl Try.underlying23 rfl sz3 (by decide) rfl) rfl ?_
   refine sv_put (H:=H182) (n:=H106.next) (v:=undef) (x:=some (.row #[vI x196,vI x127] .raw)) rfl rfl rfl rfl (opv_storeC (u:=vI x196) rfl rfl rfl rfl rfl neI sz3 rfl rfl rfl ((k183.get H106.next (by omega)).trans ((f177.get H106.next (by omega)).trans ((f172.get H106.next (by omega)).trans ((f167.get H106.next (by omega)).trans hb129)))) rfl rfl) ?_
   intro H200 f201
   refine putL w184 f201 ((k183.get H106.next (by omega)).trans ((f177.get H106.next (by omega)).trans ((f172.get H106.next (by omega)).trans ((f167.get H106.next (by omega)).trans hb129)))) fun n204 w202 l203 => ?_
   refine sv (v:=vP H106.next 1) rfl rfl rfl (opv_fieldAddrE rfl rfl rfl Try.underlying23 rfl sz3 (by decide) rfl) rfl ?_
   refine sv_put (H:=H200) (n:=H106.next) (v:=undef) (x:=some (.row #[vI x196,vI x198] .raw)) rfl rfl rfl rfl (opv_storeC (u:=vI x198) rfl rfl rfl rfl rfl neI sz3 rfl rfl rfl f201.blk rfl rfl) ?_
   intro H205 f206
   refine putL w202 f206 f201.blk fun n209 w207 l208 => ?_
   refine wo_nil ?_
   try refine q_eq (e':=.normal) rfl ?_
   refine ⟨(f206.get (H121.next + 1) (by omega)).trans ((f201.get (H121.next + 1) (by omega)).trans ((k183.get (H121.next + 1) (by omega)).trans f177.blk)),fun H210 => ⟨fun _ f211 => ?_,fun h => absurd rfl h⟩⟩
   replace f211:PutF H205 (H121.next + 1) _ H210:=f211
   have n214:=f211.next
   have w212:=w207.putO f211 ((f206.get (H121.next + 1) (by omega)).trans ((f201.get (H121.next + 1) (by omega)).trans ((k183.get (H121.next + 1) (by omega)).trans f177.blk))) (by simp) (by simp)
   have l213:=Le.putO f211 ((f206.get (H121.next + 1) (by omega)).trans ((f201.get (H121.next + 1) (by omega)).trans ((k183.get (H121.next + 1) (by omega)).trans f177.blk))) (by simp)
   exact ⟨w212,(((((l169.trans l174).trans l179).trans l187).trans l203).trans l208).trans l213,((((((((KeepX.refl (fun m => m=H106.next∨m=H111.next∨m=(H121.next + 1)) A141).new_ f167).put f172 (by first | (right; omega) | (left; (try dsimp only) <;> omega))).put f177 (by first | (right; omega) | (left; (try dsimp only) <;> omega))).keep k183).put f201 (by first | (right; omega) | (left; (try dsimp only) <;> omega))).put f206 (by first | (right; omega) | (left; (try dsimp only) <;> omega))).put f211 (by first | (right; omega) | (left; (try dsimp only) <;> omega))).weak (fun m h => by (try dsimp only at h ⊢); omega),⟨x196,x198,false,(f211.get H106.next (by omega)).trans f206.blk,(f211.get H111.next (by omega)).trans ((f206.get H111.next (by omega)).trans ((f201.get H111.next (by omega)).trans ((k183.get H111.next (by omega)).trans ((f177.get H111.next (by omega)).trans ((f172.get H111.next (by omega)).trans ((f167.get H111.next (by omega)).trans hb130))))))⟩⟩
  ·
   refine w_cond (t:=true) rfl rfl (fun _ => ?_) (fun h => by cases h)
   refine w_region (mv (vI x195) rfl rfl ?_)
   refine sc_ (H:=H182) (vs:=[vI x195]) (fv:=.func (.func 37) #[] #[]) rfl rfl rfl rfl rfl rfl (.cons rfl rfl neI .nil) rfl ?_
   refine WV.mono (wv_f0 Try.call37 (tide_one_ok x195 _ w184)) ?_
   rintro v216 H217 ⟨k218,w215,rfl⟩
   refine kpL k218 fun n220 l219 => ?_
   refine sv_put (H:=H217) (n:=H106.next) (v:=undef) (x:=some (.row #[vI x195,vI x195] .raw)) rfl rfl rfl rfl (opv_storeC (u:=.agg #[vI x195,vI x195]) rfl rfl rfl rfl rfl (by simp [undef]) sz23 rfl rfl rfl ((k218.get H106.next (by omega)).trans ((k183.get H106.next (by omega)).trans ((f177.get H106.next (by omega)).trans ((f172.get H106.next (by omega)).trans ((f167.get H106.next (by omega)).trans hb129))))) rfl rfl) ?_
   intro H221 f222
   refine putL w215 f222 ((k218.get H106.next (by omega)).trans ((k183.get H106.next (by omega)).trans ((f177.get H106.next (by omega)).trans ((f172.get H106.next (by omega)).trans ((f167.get H106.next (by omega)).trans hb129))))) fun n225 w223 l224 => ?_
   refine sv_put (H:=H221) (n:=H111.next) (v:=undef) (x:=some (.row #[.bool false] .raw)) rfl rfl rfl rfl (opv_storeC (u:=.bool false) rfl rfl rfl rfl rfl (by simp [undef]) sz4 rfl rfl rfl ((f222.get H111.next (by omega)).trans ((k218.get H111.next (by omega)).trans ((k183.get H111.next (by omega)).trans ((f177.get H111.next (by omega)).trans ((f172.get H111.next (by omega)).trans ((f167.get H111.next (by omega)).trans hb130)))))) rfl rfl) ?_
   intro H226 f227
   refine putL w223 f227 ((f222.get H111.next (by omega)).trans ((k218.get H111.next (by omega)).trans ((k183.get H111.next (by omega)).trans ((f177.get H111.next (by omega)).trans ((f172.get H111.next (by omega)).trans ((f167.get H111.next (by omega)).trans hb130)))))) fun n230 w228 l229 => ?_
   refine wo_nil (tq_n (wk ⟨[(5,vP H106.next 0),(8,vI x195)],28,[],H226⟩ rfl ?_))
   refine w_region (sv (v:=vP H106.next 0) rfl rfl rfl (opv_fieldAddrE rfl rfl rfl Try.underlying23 rfl sz3 (by decide) rfl) rfl ?_)
   refine sv (v:=vI x195) rfl rfl rfl (opv_loadE rfl rfl rfl ag3 sz3 ((f227.get H106.next (by omega)).trans f222.blk) rfl (.inr rfl) rfl) rfl ?_
   refine mv (vI x195) rfl rfl ?_
   refine sv_int rfl rfl rfl (opv_min rfl rfl rfl rfl rfl) ?_
   intro x231 h232
   replace h232:=ite_or h232
   refine sv (v:=vP H106.next 1) rfl rfl rfl (opv_fieldAddrE rfl rfl rfl Try.underlying23 rfl sz3 (by decide) rfl) rfl ?_
   refine sv (v:=vI x195) rfl rfl rfl (opv_loadE rfl rfl rfl ag3 sz3 ((f227.get H106.next (by omega)).trans f222.blk) rfl (.inr rfl) rfl) rfl ?_
   refine mv (vI x195) rfl rfl ?_
   refine sv_int rfl rfl rfl (opv_max rfl rfl rfl rfl rfl) ?_
   intro x233 h234
   replace h234:=ite_or h234
   refine sv (v:=vP H106.next 0) rfl rfl rfl (opv_fieldAddrE rfl rfl rfl Try.underlying23 rfl sz3 (by decide) rfl) rfl ?_
   refine sv_put (H:=H226) (n:=H106.next) (v:=undef) (x:=some (.row #[vI x231,vI x195] .raw)) rfl rfl rfl rfl (opv_storeC (u:=vI x231) rfl rfl rfl rfl rfl neI sz3 rfl rfl rfl ((f227.get H106.next (by omega)).trans f222.blk) rfl rfl) ?_
   intro H235 f236
   refine putL w228 f236 ((f227.get H106.next (by omega)).trans f222.blk) fun n239 w237 l238 => ?_
   refine sv (v:=vP H106.next 1) rfl rfl rfl (opv_fieldAddrE rfl rfl rfl Try.underlying23 rfl sz3 (by decide) rfl) rfl ?_
   refine sv_put (H:=H235) (n:=H106.next) (v:=undef) (x:=some (.row #[vI x231,vI x233] .raw)) rfl rfl rfl rfl (opv_storeC (u:=vI x233) rfl rfl rfl rfl rfl neI sz3 rfl rfl rfl f236.blk rfl rfl) ?_
   intro H240 f241
   refine putL w237 f241 f236.blk fun n244 w242 l243 => ?_
   refine wo_nil ?_
   try refine q_eq (e':=.normal) rfl ?_
   refine ⟨(f241.get (H121.next + 1) (by omega)).trans ((f236.get (H121.next + 1) (by omega)).trans ((f227.get (H121.next + 1) (by omega)).trans ((f222.get (H121.next + 1) (by omega)).trans ((k218.get (H121.next + 1) (by omega)).trans ((k183.get (H121.next + 1) (by omega)).trans f177.blk))))),fun H245 => ⟨fun _ f246 => ?_,fun h => absurd rfl h⟩⟩
   replace f246:PutF H240 (H121.next + 1) _ H245:=f246
   have n249:=f246.next
   have w247:=w242.putO f246 ((f241.get (H121.next + 1) (by omega)).trans ((f236.get (H121.next + 1) (by omega)).trans ((f227.get (H121.next + 1) (by omega)).trans ((f222.get (H121.next + 1) (by omega)).trans ((k218.get (H121.next + 1) (by omega)).trans ((k183.get (H121.next + 1) (by omega)).trans f177.blk)))))) (by simp) (by simp)
   have l248:=Le.putO f246 ((f241.get (H121.next + 1) (by omega)).trans ((f236.get (H121.next + 1) (by omega)).trans ((f227.get (H121.next + 1) (by omega)).trans ((f222.get (H121.next + 1) (by omega)).trans ((k218.get (H121.next + 1) (by omega)).trans ((k183.get (H121.next + 1) (by omega)).trans f177.blk)))))) (by simp)
   exact ⟨w247,((((((((l169.trans l174).trans l179).trans l187).trans l219).trans l224).trans l229).trans l238).trans l243).trans l248,(((((((((((KeepX.refl (fun m => m=H106.next∨m=H111.next∨m=(H121.next + 1)) A141).new_ f167).put f172 (by first | (right; omega) | (left; (try dsimp only) <;> omega))).put f177 (by first | (right; omega) | (left; (try dsimp only) <;> omega))).keep k183).keep k218).put f222 (by first | (right; omega) | (left; (try dsimp only) <;> omega))).put f227 (by first | (right; omega) | (left; (try dsimp only) <;> omega))).put f236 (by first | (right; omega) | (left; (try dsimp only) <;> omega))).put f241 (by first | (right; omega) | (left; (try dsimp only) <;> omega))).put f246 (by first | (right; omega) | (left; (try dsimp only) <;> omega))).weak (fun m h => by (try dsimp only at h ⊢); omega),⟨x231,x233,false,(f246.get H106.next (by omega)).trans f241.blk,(f246.get H111.next (by omega)).trans ((f241.get H111.next (by omega)).trans ((f236.get H111.next (by omega)).trans f227.blk))⟩⟩
 ·
  rintro H255 w250 l251 k252 n253 hd254 ⟨x126,x127,b128,hb129,hb130⟩
  replace k252:=k252.weak (Y:=fun m => m=H106.next∨m=H111.next) (fun m h => h.elim id False.elim)
  try refine q_eq (e':=.normal) rfl ?_
  refine tqk ⟨[(4,vP H101.next 0),(5,vP H106.next 0)],28,[mark H121.next],H255⟩ rfl ?_
  refine w_seq (w_region (sv (v:=.agg #[vI x126,vI x127]) rfl rfl rfl (opv_loadE rfl rfl rfl ag23 sz23 hb129 rfl (.inl rfl) rfl) rfl ?_))
  refine sv_put (H:=H255) (n:=H101.next) (v:=undef) (x:=some (.row #[vI x126,vI x127] .raw)) rfl rfl rfl rfl (opv_storeC (u:=.agg #[vI x126,vI x127]) rfl rfl rfl rfl rfl (by simp [undef]) sz23 rfl rfl rfl ((k252.get H101.next (by omega) (by (try dsimp only); omega)).trans ((f122.get H101.next (by omega)).trans ((f117.get H101.next (by omega)).trans ((f112.get H101.next (by omega)).trans f107.blk)))) rfl rfl) ?_
  intro H256 f257
  refine putL w250 f257 ((k252.get H101.next (by omega) (by (try dsimp only); omega)).trans ((f122.get H101.next (by omega)).trans ((f117.get H101.next (by omega)).trans ((f112.get H101.next (by omega)).trans f107.blk)))) fun n260 w258 l259 => ?_
  refine wo_nil (tq_n (wk ⟨[(4,vP H101.next 0)],28,[mark H121.next],H256⟩ rfl ?_))
  refine w_ret ?_
  obtain ⟨H261,f262,m263⟩:=marks1 ((f257.get H121.next (by omega)).trans hd254)
  have n266:=f262.next
  have w264:=w258.putO f262 ((f257.get H121.next (by omega)).trans hd254) (by simp) (by simp)
  have l265:=Le.putO f262 ((f257.get H121.next (by omega)).trans hd254) (by simp)
  refine ⟨.inr rfl,H261,[.agg #[vI x126,vI x127]],m263 _ _ .nil,.cons (resV_cellE rfl ag23 sz23 ((f262.get H101.next (by omega)).trans f257.blk) rfl (.inl rfl) rfl) .nil,((((((((((KeepX.refl (fun _ => False) H).new_ f102).new_ f107).new_ f112).new_ f117).put f122 (by first | (right; omega) | (left; (try dsimp only) <;> omega))).trans k252 (by intro m hm; (try simp only [false_or,or_false] at hm ⊢); (try dsimp only at hm ⊢); first | omega | (right; omega) | (left; left; omega) | (left; right; omega))).put f257 (by first | (right; omega) | (left; (try dsimp only) <;> omega))).put f262 (by first | (right; omega) | (left; (try dsimp only) <;> omega))).k (fun _ h => h.elim)),w264,x126,x127,rfl⟩
 ·
  rintro x H2 _ _ _ _ _ h; exact h.elim

theorem tide_within_ok (ax1 ax2:Int) (ax3 ax4 ax5:Int) (as6:Value) (ax7 ax8:Int) (ax9 ax10:Int) (ax11 ax12:Int) (ax13 ax14:Int) (ax15 ax16:Int) (ax17 ax18:Int) (H:SH) (wt:WT H) (hvas6:VT H (.sl false [.int .i64,.int .i64,.int .i64,.int .i64,.int .i64]) as6) (h0:ax10 ≠ 0) (h1:ax11 ≠ 0):WC Try.prog 43 [.agg #[vI ax1,vI ax2,vI ax3,vI ax4,vI ax5,as6,vI ax7,vI ax8,vI ax9],.agg #[vI ax10,vI ax11,vI ax12,vI ax13,vI ax14,vI ax15,vI ax16,vI ax17],vI ax18] H (fun v H' => Keep H H'∧WT H'∧∃ (rb19:Bool),v=(.bool rb19)):=by
 refine wc_of_body Try.func43 rfl ?_
 refine wk ⟨[(0,.agg #[vI ax1,vI ax2,vI ax3,vI ax4,vI ax5,as6,vI ax7,vI ax8,vI ax9]),(1,.agg #[vI ax10,vI ax11,vI ax12,vI ax13,vI ax14,vI ax15,vI ax16,vI ax17]),(2,vI ax18)],30,[],H⟩ rfl ?_
 refine w_seq (w_region (sv_new (H:=H) (v:=vP H.next 0) (x:=.row #[vI ax1,vI ax2,vI ax3,vI ax4,vI ax5,as6,vI ax7,vI ax8,vI ax9] .raw) rfl rfl rfl rfl (opv_boxE (v:=.agg #[vI ax1,vI ax2,vI ax3,vI ax4,vI ax5,as6,vI ax7,vI ax8,vI ax9]) rfl rfl rfl (by simp [undef]) rfl) ?_))
 intro H101 f102
 refine newL wt f102 fun n105 w103 l104 => ?_
 refine sv_new (H:=H101) (v:=vP H101.next 0) (x:=.row #[vI ax10,vI ax11,vI ax12,vI ax13,vI ax14,vI ax15,vI ax16,vI ax17] .raw) rfl rfl rfl rfl (opv_boxE (v:=.agg #[vI ax10,vI ax11,vI ax12,vI ax13,vI ax14,vI ax15,vI ax16,vI ax17]) rfl rfl rfl (by simp [undef]) rfl) ?_
 intro H106 f107
 refine newL w103 f107 fun n110 w108 l109 => ?_
 refine mv (.bool false) rfl rfl ?_
 refine wo_nil (tq_n (wk ⟨[(2,vI ax18),(3,vP H.next 0),(4,vP H101.next 0)],30,[],H106⟩ rfl ?_))
 refine w_seq (w_draw_start ?_)
 intro C0
 have C111:=ch_val (i:=0) (p:=0) (ks:=[4]) (v:=.agg #[vI ax10,vI ax11,vI ax12,vI ax13,vI ax14,vI ax15,vI ax16,vI ax17]) (A:=H106) (H:=H106) C0 rfl rfl rfl rfl rfl rfl (opv_loadE rfl rfl rfl ag87 sz87 f107.blk rfl (.inl rfl) rfl)
 obtain ⟨_,H116,k117,⟨w113,r1114,rfl,⟨hb115,_,_⟩⟩,C112⟩:=ch_call (i:=1) (p:=1) (ks:=[8]) (vs:=[.agg #[vI ax10,vI ax11,vI ax12,vI ax13,vI ax14,vI ax15,vI ax16,vI ax17]]) (fv:=.func (.func 41) #[] #[]) (H:=H106) C111 rfl rfl rfl rfl rfl rfl rfl (.cons rfl rfl (by simp [undef]) .nil) rfl (wv_f0 Try.call41 (tide_corners_ok ax10 ax11 ax12 ax13 ax14 ax15 ax16 ax17 _ w108))
 refine kpL k117 fun n119 l118 => ?_
 have C120:=ch_val (i:=2) (p:=0) (ks:=[3]) (v:=.agg #[vI ax1,vI ax2,vI ax3,vI ax4,vI ax5,as6,vI ax7,vI ax8,vI ax9]) (A:=H106) (H:=H116) C112 rfl rfl rfl rfl rfl rfl (opv_loadE rfl rfl rfl ag79 sz79 ((f107.get H.next (by omega)).trans f102.blk) rfl (.inl rfl) rfl)
 have C121:=ch_val (i:=3) (p:=0) (ks:=[2]) (v:=vI ax18) (A:=H106) (H:=H116) C120 rfl rfl rfl rfl rfl rfl (opv_move (.inl rfl) rfl rfl)
 obtain ⟨_,H130,k131,⟨w123,r1124,r2125,r3126,rfl,⟨hb127,_,_⟩,⟨hb128,_,_⟩,⟨hb129,_,_⟩⟩,C122⟩:=ch_call (i:=4) (p:=4) (ks:=[10,11]) (vs:=[.agg #[vI ax1,vI ax2,vI ax3,vI ax4,vI ax5,as6,vI ax7,vI ax8,vI ax9],vI ax18,vI 0]) (fv:=.func (.func 42) #[] #[]) (H:=H116) C121 rfl rfl rfl rfl rfl rfl rfl (.cons rfl rfl (by simp [undef]) (.cons rfl rfl neI (.cons rfl rfl neI .nil))) rfl (wv_f0 Try.call42 (tide_at_ok ax1 ax2 ax3 ax4 ax5 as6 ax7 ax8 ax9 ax18 0 _ w113 (hvas6.mono ((l104.trans l109).trans l118))))
 refine kpL k131 fun n133 l132 => ?_
 have ok166:FnOK Try.prog (.func (.func 61) #[] #[vP r1124 0,vP r2125 0,vP r3126 0]) [(true,[.int .i64,.int .i64,.int .i64,.int .i64])] [(false,[.int .i64])] (fun l => argI l 0 0 ≠ 0) H130:=by
   refine ⟨⟨by simp [undef],rfl,rfl⟩,?_⟩
   intro H135 k136 w137 as138 ha139 hp140
   have n142:=k136.next
   have l141:=k136.le
   obtain ⟨v143,r144,rfl,⟨us145,hu146,rfl⟩,ha139⟩:=ha139
   replace hu146:VTs H135 [.int .i64,.int .i64,.int .i64,.int .i64] us145:=hu146
   obtain ⟨x149,r147,rfl,hs148⟩:=vts_int hu146
   obtain ⟨x152,r150,rfl,hs151⟩:=vts_int hs148
   obtain ⟨x155,r153,rfl,hs154⟩:=vts_int hs151
   obtain ⟨x158,r156,rfl,hs157⟩:=vts_int hs154
   obtain rfl:=vts_nil hs157
   obtain rfl:r144=[]:=ha139
   replace hp140:x149 ≠ 0:=hp140
   refine WV.mono (wv_fc (cap:=[vP r1124 0,vP r2125 0,vP r3126 0]) Try.call61 (tide_at1_ok x149 x152 x155 x158 r1124 r2125 r3126 0 ax18 ax1 ax2 ax3 ax4 ax5 as6 ax7 ax8 ax9 _ w137 (hvas6.mono ((((l104.trans l109).trans l118).trans l132).trans l141)) ((k136.get r1124 (by omega)).trans hb127) (by omega) ((k136.get r2125 (by omega)).trans hb128) (by omega) ((k136.get r3126 (by omega)).trans hb129) (by omega) (by omega))) ?_
   rintro v161 H162 ⟨k163,w159,rx1160,rfl⟩
   refine kpL k163 fun n165 l164 => ?_
   exact ⟨k163,w159,[vI rx1160],⟨_,_,rfl,⟨[vI rx1160],⟨_,_,rfl,.int _ _,rfl⟩,rfl⟩,rfl⟩,rfl⟩
 have ok198:FnOK Try.prog (.func (.func 61) #[] #[vP r1124 0,vP r2125 0,vP r3126 0]) [(true,[.int .i64,.int .i64,.int .i64,.int .i64])] [(false,[.int .i64])] (fun l => argI l 0 0 ≠ 0) H130:=by
   refine ⟨⟨by simp [undef],rfl,rfl⟩,?_⟩
   intro H167 k168 w169 as170 ha171 hp172
   have n174:=k168.next
   have l173:=k168.le
   obtain ⟨v175,r176,rfl,⟨us177,hu178,rfl⟩,ha171⟩:=ha171
   replace hu178:VTs H167 [.int .i64,.int .i64,.int .i64,.int .i64] us177:=hu178
   obtain ⟨x181,r179,rfl,hs180⟩:=vts_int hu178
   obtain ⟨x184,r182,rfl,hs183⟩:=vts_int hs180
   obtain ⟨x187,r185,rfl,hs186⟩:=vts_int hs183
   obtain ⟨x190,r188,rfl,hs189⟩:=vts_int hs186
   obtain rfl:=vts_nil hs189
   obtain rfl:r176=[]:=ha171
   replace hp172:x181 ≠ 0:=hp172
   refine WV.mono (wv_fc (cap:=[vP r1124 0,vP r2125 0,vP r3126 0]) Try.call61 (tide_at1_ok x181 x184 x187 x190 r1124 r2125 r3126 0 ax18 ax1 ax2 ax3 ax4 ax5 as6 ax7 ax8 ax9 _ w169 (hvas6.mono ((((l104.trans l109).trans l118).trans l132).trans l173)) ((k168.get r1124 (by omega)).trans hb127) (by omega) ((k168.get r2125 (by omega)).trans hb128) (by omega) ((k168.get r3126 (by omega)).trans hb129) (by omega) (by omega))) ?_
   rintro v193 H194 ⟨k195,w191,rx1192,rfl⟩
   refine kpL k195 fun n197 l196 => ?_
   exact ⟨k195,w191,[vI rx1192],⟨_,_,rfl,⟨[vI rx1192],⟨_,_,rfl,.int _ _,rfl⟩,rfl⟩,rfl⟩,rfl⟩
 obtain ⟨_,H202,k203,⟨w199,rx1200,rx2201,rfl⟩,C134⟩:=ch_call (i:=5) (p:=5) (ks:=[9,12]) (vs:=[.func (.func 60) #[] #[vP r1114 0],.func (.func 61) #[] #[vP r1124 0,vP r2125 0,vP r3126 0]]) (fv:=.func (.func 39) #[] #[]) (H:=H130) C122 rfl rfl rfl rfl rfl rfl rfl (.cons rfl rfl (by simp [undef]) (.cons rfl rfl (by simp [undef]) .nil)) rfl (wv_f0 Try.call39 (tide_reach_ok (.func (.func 60) #[] #[vP r1114 0]) (fun m => m=r1114) (fun l => argI l 0 0 ≠ 0) (.func (.func 61) #[] #[vP r1124 0,vP r2125 0,vP r3126 0]) _ w123 (tide_corners_seq r1114 ax10 ax11 ax12 ax13 ax14 ax15 ax16 ax17 _ w123 ((k131.get r1114 (by omega)).trans hb115) (by omega) (by omega) (by omega)) ok198))
 refine kpL k203 fun n205 l204 => ?_
 obtain ⟨H207,f208,C206⟩:=ch_bare (i:=6) (p:=6) (ks:=[]) (v:=vP H202.next 0) (x:=.row #[vI 0,vI 0] .raw) (H:=H202) C134 rfl rfl rfl rfl rfl (opv_alloc rfl ze23 rfl)
 refine newL w199 f208 fun n211 w209 l210 => ?_
 refine w_draw (tl:=[7]) rfl [0,1,0,0,15,31,0,127] C206 (by kernel_rfl) (by kernel_rfl) ?_
 refine wonorm (g:=[(3,vP H.next 0),(7,vP H202.next 0),(13,.agg #[vI rx1200,vI rx2201])]) (n:=30) (ds:=[]) (H:=H207) (lsub_cons rfl (lsub_cons rfl (lsub_cons rfl (lsub_nil _)))) rfl rfl rfl ?_
 refine sv_put (H:=H207) (n:=H202.next) (v:=undef) (x:=some (.row #[vI rx1200,vI rx2201] .raw)) rfl rfl rfl rfl (opv_storeC (u:=.agg #[vI rx1200,vI rx2201]) rfl rfl rfl rfl rfl (by simp [undef]) sz23 rfl rfl rfl f208.blk rfl rfl) ?_
 intro H212 f213
 refine putL w209 f213 f208.blk fun n216 w214 l215 => ?_
 refine wo_nil (tq_n (wk ⟨[(3,vP H.next 0),(7,vP H202.next 0)],30,[],H212⟩ rfl ?_))
 refine w_seq (w_region (sv (v:=vP H202.next 0) rfl rfl rfl (opv_fieldAddrE rfl rfl rfl Try.underlying23 rfl sz3 (by decide) rfl) rfl ?_))
 refine sv (v:=vI rx1200) rfl rfl rfl (opv_loadE rfl rfl rfl ag3 sz3 f213.blk rfl (.inr rfl) rfl) rfl ?_
 refine sv (v:=vP H.next 0) rfl rfl rfl (opv_fieldAddrE rfl rfl rfl Try.underlying79 rfl sz26 (by decide) rfl) rfl ?_
 refine sv (v:=vP H.next 2) rfl rfl rfl (opv_fieldAddrE rfl rfl rfl Try.underlying26 rfl sz23 (by decide) rfl) rfl ?_
 refine sv (v:=vP H.next 2) rfl rfl rfl (opv_fieldAddrE rfl rfl rfl Try.underlying23 rfl sz3 (by decide) rfl) rfl ?_
 refine sv (v:=vI ax3) rfl rfl rfl (opv_loadE rfl rfl rfl ag3 sz3 ((f213.get H.next (by omega)).trans ((f208.get H.next (by omega)).trans ((k203.get H.next (by omega)).trans ((k131.get H.next (by omega)).trans ((k117.get H.next (by omega)).trans ((f107.get H.next (by omega)).trans f102.blk)))))) rfl (.inr rfl) rfl) rfl ?_
 by_cases c217:rx1200 ≥ ax3
 ·
  refine sv (v:=.bool true) rfl rfl rfl (opv_bin rfl rfl rfl rfl rfl (cmpT rfl c217)) rfl ?_
  refine mv (.bool true) rfl rfl ?_
  refine sv (v:=vP H202.next 1) rfl (wants_g rfl rfl rfl rfl rfl) rfl (opv_fieldAddrE rfl rfl rfl Try.underlying23 rfl sz3 (by decide) rfl) rfl ?_
  refine sv (v:=vI rx2201) rfl (wants_g rfl rfl rfl rfl rfl) rfl (opv_loadE rfl rfl rfl ag3 sz3 f213.blk rfl (.inr rfl) rfl) rfl ?_
  refine sv (v:=vP H.next 0) rfl (wants_g rfl rfl rfl rfl rfl) rfl (opv_fieldAddrE rfl rfl rfl Try.underlying79 rfl sz26 (by decide) rfl) rfl ?_
  refine sv (v:=vP H.next 2) rfl (wants_g rfl rfl rfl rfl rfl) rfl (opv_fieldAddrE rfl rfl rfl Try.underlying26 rfl sz23 (by decide) rfl) rfl ?_
  refine sv (v:=vP H.next 3) rfl (wants_g rfl rfl rfl rfl rfl) rfl (opv_fieldAddrE rfl rfl rfl Try.underlying23 rfl sz3 (by decide) rfl) rfl ?_
  refine sv (v:=vI ax4) rfl (wants_g rfl rfl rfl rfl rfl) rfl (opv_loadE rfl rfl rfl ag3 sz3 ((f213.get H.next (by omega)).trans ((f208.get H.next (by omega)).trans ((k203.get H.next (by omega)).trans ((k131.get H.next (by omega)).trans ((k117.get H.next (by omega)).trans ((f107.get H.next (by omega)).trans f102.blk)))))) rfl (.inr rfl) rfl) rfl ?_
  by_cases c218:rx2201 ≤ ax4
  ·
   refine sv (v:=.bool true) rfl (wants_g rfl rfl rfl rfl rfl) rfl (opv_bin rfl rfl rfl rfl rfl (cmpT rfl c218)) rfl ?_
   refine sv (v:=.bool true) rfl rfl rfl (opv_pick (b:=true) rfl rfl rfl rfl rfl rfl) rfl ?_
   refine mv (.bool true) rfl rfl ?_
   refine wo_nil (tq_n (wk ⟨[(6,.bool true)],30,[],H212⟩ rfl ?_))
   refine w_ret ?_
   refine ⟨.inr rfl,rfl,[.bool true],.cons (resV_tmp rfl (by simp [undef])) .nil,(((((((((KeepX.refl (fun _ => False) H).new_ f102).new_ f107).keep k117).keep k131).keep k203).new_ f208).put f213 (by first | (right; omega) | (left; (try dsimp only) <;> omega))).k (fun _ h => h.elim)),w214,true,rfl⟩
  ·
   refine sv (v:=.bool false) rfl (wants_g rfl rfl rfl rfl rfl) rfl (opv_bin rfl rfl rfl rfl rfl (cmpF rfl c218)) rfl ?_
   refine sv (v:=.bool false) rfl rfl rfl (opv_pick (b:=true) rfl rfl rfl rfl rfl rfl) rfl ?_
   refine mv (.bool false) rfl rfl ?_
   refine wo_nil (tq_n (wk ⟨[(6,.bool false)],30,[],H212⟩ rfl ?_))
   refine w_ret ?_
   refine ⟨.inr rfl,rfl,[.bool false],.cons (resV_tmp rfl (by simp [undef])) .nil,(((((((((KeepX.refl (fun _ => False) H).new_ f102).new_ f107).keep k117).keep k131).keep k203).new_ f208).put f213 (by first | (right; omega) | (left; (try dsimp only) <;> omega))).k (fun _ h => h.elim)),w214,false,rfl⟩
 ·
  refine sv (v:=.bool false) rfl rfl rfl (opv_bin rfl rfl rfl rfl rfl (cmpF rfl c217)) rfl ?_
  refine mv (.bool false) rfl rfl ?_
  refine ss rfl (wants_g rfl rfl rfl rfl rfl) rfl rfl ?_
  refine ss rfl (wants_g rfl rfl rfl rfl rfl) rfl rfl ?_
  refine ss rfl (wants_g rfl rfl rfl rfl rfl) rfl rfl ?_
  refine ss rfl (wants_g rfl rfl rfl rfl rfl) rfl rfl ?_
  refine ss rfl (wants_g rfl rfl rfl rfl rfl) rfl rfl ?_
  refine ss rfl (wants_g rfl rfl rfl rfl rfl) rfl rfl ?_
  refine ss rfl (wants_g rfl rfl rfl rfl rfl) rfl rfl ?_
  refine sv (v:=.bool false) rfl rfl rfl (opv_pick (b:=false) rfl rfl rfl rfl rfl rfl) rfl ?_
  refine mv (.bool false) rfl rfl ?_
  refine wo_nil (tq_n (wk ⟨[(6,.bool false)],30,[],H212⟩ rfl ?_))
  refine w_ret ?_
  refine ⟨.inr rfl,rfl,[.bool false],.cons (resV_tmp rfl (by simp [undef])) .nil,(((((((((KeepX.refl (fun _ => False) H).new_ f102).new_ f107).keep k117).keep k131).keep k203).new_ f208).put f213 (by first | (right; omega) | (left; (try dsimp only) <;> omega))).k (fun _ h => h.elim)),w214,false,rfl⟩
end Go.Proofs.Orl
