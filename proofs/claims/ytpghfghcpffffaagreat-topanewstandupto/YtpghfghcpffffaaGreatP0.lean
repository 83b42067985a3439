/- Part 0 of the proof of orlop/orloptop.TopAnewStand: every call of the package puts the same twice, and changes no argument. Conditions: those of the statement, and no others. -/
import Derived.RangeFuncRecord
import Derived.RecoverIn
import Derived.Laws.World
import Derived.Laws.Sem
import Derived.Laws.Cells
import Derived.Laws.CopyRow
import Derived.Laws.Rows
import Derived.Laws.Tables
import Derived.Laws.Entries
import Derived.Orders
import Derived.RangeFuncLeaves
namespace Go.Proofs.Orl
open Go

structure Pl where
  b:Nat
  o:Nat
  k:Nat

abbrev Ph:=Nat→Pl

inductive FR (B:Nat) (N:Nat→Prop) (φ:Ph):Fn→Fn→Prop
  | func (f:FuncId):FR B N φ (.func f) (.func f)
  | via (t:TypeId) (p:Array FieldStep) (f:FuncId) (b:Bool):FR B N φ (.via t p f b) (.via t p f b)
  | yield (l:Nat):B ≤ l→N l→FR B N φ (.yield l) (.yield (φ l).b)

inductive VR (B:Nat) (N:Nat→Prop) (φ:Ph):Value→Value→Prop
  | bool (b:Bool):VR B N φ (.bool b) (.bool b)
  | int (k:IntKind) (n:Int):VR B N φ (.int k n) (.int k n)
  | string (s:ByteArray):VR B N φ (.string s) (.string s)
  | nilPtr:VR B N φ (.pointer none) (.pointer none)
  | oldPtr (a:Addr):a.block < B→VR B N φ (.pointer (some a)) (.pointer (some a))
  | ptr (n k:Nat):B ≤ n→N n→VR B N φ (.pointer (some ⟨n,k,none⟩)) (.pointer (some ⟨(φ n).b,(φ n).o + k,none⟩))
  | nilSlice (l c:Nat):VR B N φ (.slice none l c) (.slice none l c)
  | oldSlice (a:Addr) (l c:Nat):a.block < B→VR B N φ (.slice (some a) l c) (.slice (some a) l c)
  | slice (n k l c r:Nat):B ≤ n→N n→l ≤ r→(c=0→r=l)→k + r * c ≤ (φ n).k→
      VR B N φ (.slice (some ⟨n,k,none⟩) l c) (.slice (some ⟨(φ n).b,(φ n).o + k,none⟩) l r)
  | empty (a b:Addr) (c:Nat) : (B ≤ a.block→N a.block)→VR B N φ (.slice (some a) 0 c) (.slice (some b) 0 0)
  | nilMap:VR B N φ (.map none) (.map none)
  | map (n:Nat):B ≤ n→N n→VR B N φ (.map (some n)) (.map (some (φ n).b))
  | func (f f' : Fn) (x x' c c' : Array Value):FR B N φ f f'→x.size=x'.size→(∀ i,i < x.size→VR B N φ (x.getD i undef) (x'.getD i undef))→
      c.size=c'.size→(∀ i,i < c.size→VR B N φ (c.getD i undef) (c'.getD i undef))→VR B N φ (.func f x c) (.func f' x' c')
  | nilFunc:VR B N φ .nilFunc .nilFunc
  | iface (t:TypeId) (v v' : Value):VR B N φ v v'→VR B N φ (.iface t v) (.iface t v')
  | nilIface:VR B N φ .nilIface .nilIface
  | agg (x x' : Array Value):x.size=x'.size→(∀ i,i < x.size→VR B N φ (x.getD i undef) (x'.getD i undef))→VR B N φ (.agg x) (.agg x')
  | tuple (x x' : Array Value):x.size=x'.size→(∀ i,i < x.size→VR B N φ (x.getD i undef) (x'.getD i undef))→VR B N φ (.tuple x) (.tuple x')

def AR (B:Nat) (N:Nat→Prop) (φ:Ph) (x x' : Array Value):Prop:=x.size=x'.size∧∀ i,i < x.size→VR B N φ (x.getD i undef) (x'.getD i undef)

section
variable {B:Nat} {N N' : Nat→Prop} {φ φ' : Ph} {x x' : Array Value}

theorem FR.mono (hN : ∀ n,N n→N' n) (h : ∀ n,N n→φ' n=φ n) {f f' : Fn} (r:FR B N φ f f'):FR B N' φ' f f':=by
  cases r with
  | func f => exact .func f
  | via t p f b => exact .via t p f b
  | yield l h1 h2 => rw [← h l h2]; exact .yield l h1 (hN _ h2)

theorem VR.mono (hN : ∀ n,N n→N' n) (h : ∀ n,N n→φ' n=φ n) {v v' : Value} (r:VR B N φ v v'):VR B N' φ' v v':=by
  induction r with
  | bool b => exact .bool b
  | int k n => exact .int k n
  | string s => exact .string s
  | nilPtr => exact .nilPtr
  | oldPtr a h1 => exact .oldPtr a h1
  | ptr n k h1 h2 => rw [← h n h2]; exact .ptr n k h1 (hN _ h2)
  | nilSlice l c => exact .nilSlice l c
  | oldSlice a l c h1 => exact .oldSlice a l c h1
  | slice n k l c r h1 h2 h3 h4 h5 => rw [← h n h2] at h5 ⊢; exact .slice n k l c r h1 (hN _ h2) h3 h4 h5
  | empty a b c h1 => exact .empty a b c fun hB => hN _ (h1 hB)
  | nilMap => exact .nilMap
  | map n h1 h2 => rw [← h n h2]; exact .map n h1 (hN _ h2)
  | func f f' x x' c c' hf hx _ hc _ ih1 ih2 => exact .func f f' x x' c c' (hf.mono hN h) hx ih1 hc ih2
  | nilFunc => exact .nilFunc
  | iface t v v' _ ih => exact .iface t v v' ih
  | nilIface => exact .nilIface
  | agg x x' hx _ ih => exact .agg x x' hx ih
  | tuple x x' hx _ ih => exact .tuple x x' hx ih

theorem AR.mono (hN : ∀ n,N n→N' n) (h : ∀ n,N n→φ' n=φ n) {x x' : Array Value} (r:AR B N φ x x'):AR B N' φ' x x' :=
  ⟨r.1,fun i hi => (r.2 i hi).mono hN h⟩

theorem VR.undef:VR B N φ undef undef:=.tuple _ _ rfl (fun i h => absurd h (by simp))

theorem AR.get (r:AR B N φ x x') (i:Nat):VR B N φ (x.getD i Go.undef) (x'.getD i Go.undef):=by
  by_cases h:i < x.size
  · exact r.2 i h
  · have h' : ¬ i < x'.size:=by rw [← r.1]; exact h
    simp [Array.getD,h,h']
    exact .undef

theorem AR.get? (r:AR B N φ x x') {i:Nat} {v:Value} (h:x[i]? = some v) : ∃ v',x'[i]? = some v'∧VR B N φ v v':=by
  obtain ⟨hi,rfl⟩:=Array.getElem?_eq_some_iff.1 h
  have hi' : i < x'.size:=r.1 ▸ hi
  refine ⟨x'[i],by simp [hi'],?_⟩
  have:=r.2 i hi
  simpa [Array.getD,hi,hi'] using this

theorem AR.of_get? {x x' : Array Value} (hs:x.size=x'.size) (h : ∀ (i:Nat) (v v' : Value),x[i]? = some v→x'[i]? = some v'→VR B N φ v v'):AR B N φ x x':=by
  refine ⟨hs,fun i hi => ?_⟩
  have hi' : i < x'.size:=hs ▸ hi
  have:=h i x[i] x'[i] (by simp [hi]) (by simp [hi'])
  simpa [Array.getD,hi,hi'] using this

theorem AR.nil:AR B N φ #[] #[]:=⟨rfl,fun i h => absurd h (by simp)⟩

theorem AR.one {v v' : Value} (h:VR B N φ v v'):AR B N φ #[v] #[v'] :=
  .of_get? rfl fun i u u' hu hu' => by
    cases i with
    | zero => simp at hu hu'; subst hu; subst hu'; exact h
    | succ i => simp at hu

theorem AR.push {v v' : Value} (r:AR B N φ x x') (h:VR B N φ v v'):AR B N φ (x.push v) (x'.push v') :=
  .of_get? (by simp [r.1]) fun i u u' hu hu' => by
    rw [Array.getElem?_push] at hu hu'
    rw [r.1] at hu
    by_cases hi:i=x'.size
    · simp [hi] at hu hu'; subst hu; subst hu'; exact h
    · simp only [hi,if_false] at hu hu'
      obtain ⟨w,hw,hr⟩:=r.get? hu
      rw [hu'] at hw; cases hw; exact hr

theorem AR.append {y y' : Array Value} (r:AR B N φ x x') (h:AR B N φ y y'):AR B N φ (x++y) (x'++y') :=
  .of_get? (by simp [r.1,h.1]) fun i u u' hu hu' => by
    rw [Array.getElem?_append] at hu hu'
    rw [r.1] at hu
    split at hu
    · rename_i hlt
      simp only [hlt,if_true] at hu'
      obtain ⟨w,hw,hr⟩:=r.get? hu
      rw [hu'] at hw; cases hw; exact hr
    · rename_i hlt
      simp only [hlt,if_false] at hu'
      obtain ⟨w,hw,hr⟩:=h.get? hu
      rw [hu'] at hw; cases hw; exact hr

theorem AR.set {v v' : Value} (r:AR B N φ x x') (h:VR B N φ v v') (i:Nat):AR B N φ (x.setIfInBounds i v) (x'.setIfInBounds i v') :=
  .of_get? (by simp [r.1]) fun j u u' hu hu' => by
    rw [Array.getElem?_setIfInBounds] at hu hu'
    rw [r.1] at hu
    split at hu
    · split at hu
      · rename_i h1 h2
        simp only [h1,if_true,if_pos (h1 ▸ h2)] at hu'
        cases hu; cases hu'; exact h
      · cases hu
    · rename_i h1
      simp only [h1,if_false] at hu'
      obtain ⟨w,hw,hr⟩:=r.get? hu
      rw [hu'] at hw; cases hw; exact hr

theorem AR.extract (r:AR B N φ x x') (i j:Nat):AR B N φ (x.extract i j) (x'.extract i j) :=
  .of_get? (by simp [r.1]) fun k u u' hu hu' => by
    rw [Array.getElem?_extract] at hu hu'
    rw [r.1] at hu
    split at hu
    · rename_i h1
      simp only [h1,if_true] at hu'
      obtain ⟨w,hw,hr⟩:=r.get? hu
      rw [hu'] at hw; cases hw; exact hr
    · cases hu

theorem AR.replicate (n:Nat) {v v' : Value} (h:VR B N φ v v'):AR B N φ (Array.replicate n v) (Array.replicate n v') :=
  .of_get? (by simp) fun i u u' hu hu' => by
    simp only [Array.getElem?_replicate] at hu hu'
    split at hu
    · rename_i h1
      simp only [h1,if_true] at hu'
      cases hu; cases hu'; exact h
    · cases hu

theorem VR.mkAgg (r:AR B N φ x x'):VR B N φ (.agg x) (.agg x'):=.agg x x' r.1 r.2
theorem VR.mkTuple (r:AR B N φ x x'):VR B N φ (.tuple x) (.tuple x'):=.tuple x x' r.1 r.2

theorem VR.agg_inv {v' : Value} (r:VR B N φ (.agg x) v') : ∃ x',v' = .agg x'∧AR B N φ x x':=by cases r with | agg _ x' h1 h2 => exact ⟨x',rfl,h1,h2⟩
theorem VR.tuple_inv {v' : Value} (r:VR B N φ (.tuple x) v') : ∃ x',v' = .tuple x'∧AR B N φ x x':=by cases r with | tuple _ x' h1 h2 => exact ⟨x',rfl,h1,h2⟩
theorem VR.int_inv {k:IntKind} {n:Int} {v' : Value} (r:VR B N φ (.int k n) v'):v' = .int k n:=by cases r; rfl
theorem VR.bool_inv {b:Bool} {v' : Value} (r:VR B N φ (.bool b) v'):v' = .bool b:=by cases r; rfl
theorem VR.string_inv {s:ByteArray} {v' : Value} (r:VR B N φ (.string s) v'):v' = .string s:=by cases r; rfl

theorem VR.cells {v v' : Value} (r:VR B N φ v v'):AR B N φ v.cells v'.cells:=by
  cases r with
  | agg x x' h1 h2 => exact ⟨h1,h2⟩
  | bool b => exact .one (.bool b)
  | int k n => exact .one (.int k n)
  | string s => exact .one (.string s)
  | nilPtr => exact .one .nilPtr
  | oldPtr a h1 => exact .one (.oldPtr a h1)
  | ptr n k h1 h2 => exact .one (.ptr n k h1 h2)
  | nilSlice l c => exact .one (.nilSlice l c)
  | oldSlice a l c h1 => exact .one (.oldSlice a l c h1)
  | slice n k l c r h1 h2 h3 h4 h5 => exact .one (.slice n k l c r h1 h2 h3 h4 h5)
  | empty a b c h1 => exact .one (.empty a b c h1)
  | nilMap => exact .one .nilMap
  | map n h1 h2 => exact .one (.map n h1 h2)
  | func f f' x x' c c' hf hx h1 hc h2 => exact .one (.func f f' x x' c c' hf hx h1 hc h2)
  | nilFunc => exact .one .nilFunc
  | iface t v v' h => exact .one (.iface t v v' h)
  | nilIface => exact .one .nilIface
  | tuple x x' h1 h2 => exact .one (.tuple x x' h1 h2)
end

structure SLoop where
  state:LoopState
  pending:Option Code
  g:List (Nat × Value)
  n:Nat
  params:Array Tmp
  assign:Code
  body:Code
  defers:Nat
  deriving Inhabited

inductive Ty where
  | int (k:IntKind)
  | bool
  | str
  | sl (own:Bool) (e:List Ty)
  | ptr (e:List Ty)
  | fn (a r:List Ty)
  | map (k:Ty) (v:List Ty)
  | any
  | rng (lo hi:Int)
  deriving Inhabited

inductive Tag where
  | raw
  | grow
  | typed (e:List Ty)
  deriving Inhabited

inductive SBlk where
  | row (c:Array Value) (t:Tag)
  | obj (o:Obj)
  | loop (l:SLoop)
  deriving Inhabited

def lk:List (Nat × Value)→Nat→Value
  | [],_ => undef
  | (k,v) :: r,t => bif Nat.beq k t then v else lk r t

theorem lk_cons (k:Nat) (v:Value) (r:List (Nat × Value)) (t:Nat):lk ((k,v) :: r) t=if k=t then v else lk r t:=by
  show (bif Nat.beq k t then v else lk r t) = _
  by_cases h:k=t
  · simp [h]
  · have:Nat.beq k t=false:=by rw [← Bool.not_eq_true,Nat.beq_eq]; exact h
    simp [this,h]

inductive Tr where
  | nil
  | node (l:Tr) (v:Option SBlk) (r:Tr)
  deriving Inhabited

def Tr.get:Tr→Nat→Option SBlk
  | .nil,_ => none
  | .node l v r,n => if n=0 then v else if n % 2=1 then l.get (n / 2) else r.get (n / 2 - 1)

def Tr.setF:Nat→Tr→Nat→Option SBlk→Tr
  | 0,t,_,x => match t with | .nil => .node .nil x .nil | .node l _ r => .node l x r
  | f + 1,t,n,x =>
    match t with
    | .nil => if n=0 then .node .nil x .nil else if n % 2=1 then .node (setF f .nil (n / 2) x) none .nil else .node .nil none (setF f .nil (n / 2 - 1) x)
    | .node l v r => if n=0 then .node l x r else if n % 2=1 then .node (setF f l (n / 2) x) v r else .node l v (setF f r (n / 2 - 1) x)

def Tr.set (t:Tr) (n:Nat) (x:Option SBlk):Tr:=t.setF n n x

theorem Tr.get_nil (n:Nat):Tr.nil.get n=none:=rfl

theorem Tr.get_setF : ∀ (f:Nat) (t:Tr) (n m:Nat) (x:Option SBlk),n ≤ f→(t.setF f n x).get m=if m=n then x else t.get m:=by
  intro f
  induction f with
  | zero =>
    intro t n m x h
    obtain rfl:n=0:=by omega
    cases t with
    | nil => by_cases hm:m=0 <;> simp [Tr.setF,Tr.get,hm,Tr.get_nil]
    | node l v r => by_cases hm:m=0 <;> simp [Tr.setF,Tr.get,hm]
  | succ f ih =>
    intro t n m x h
    have i1 : ∀ t:Tr,(t.setF f (n / 2) x).get (m / 2) = if m / 2=n / 2 then x else t.get (m / 2):=fun t => ih t _ _ x (by omega)
    have i2 : ∀ t:Tr,(t.setF f (n / 2 - 1) x).get (m / 2 - 1) = if m / 2 - 1=n / 2 - 1 then x else t.get (m / 2 - 1):=fun t => ih t _ _ x (by omega)
    cases t with
    | nil =>
      simp only [Tr.setF]
      by_cases h0:n=0
      · subst h0
        by_cases hm:m=0 <;> simp [Tr.get,hm,Tr.get_nil]
      · by_cases h1:n % 2=1
        · simp only [h0,h1,if_false,if_true,Tr.get]
          by_cases hm:m=0
          · have:m ≠ n:=by omega
            simp [hm,Ne.symm h0]
          · by_cases hm1:m % 2=1
            · simp only [hm,hm1,if_false,if_true,i1]
              by_cases e:m=n
              · simp [e]
              · have:m / 2 ≠ n / 2:=by omega
                simp [e,this,Tr.get_nil]
            · have e:m ≠ n:=by intro e; subst e; exact hm1 h1
              simp [hm,hm1,e,Tr.get_nil]
        · simp only [h0,h1,if_false,Tr.get]
          by_cases hm:m=0
          · simp [hm,Ne.symm h0]
          · by_cases hm1:m % 2=1
            · have e:m ≠ n:=by intro e; subst e; exact h1 hm1
              simp [hm,hm1,e,Tr.get_nil]
            · simp only [hm,hm1,if_false,i2]
              by_cases e:m=n
              · simp [e]
              · have:m / 2 - 1 ≠ n / 2 - 1:=by omega
                simp [e,this,Tr.get_nil]
    | node l v r =>
      simp only [Tr.setF]
      by_cases h0:n=0
      · subst h0
        by_cases hm:m=0 <;> simp [Tr.get,hm]
      · by_cases h1:n % 2=1
        · simp only [h0,h1,if_false,if_true,Tr.get]
          by_cases hm:m=0
          · simp [hm,Ne.symm h0]
          · by_cases hm1:m % 2=1
            · simp only [hm,hm1,if_false,if_true,i1]
              by_cases e:m=n
              · simp [e]
              · have:m / 2 ≠ n / 2:=by omega
                simp [e,this]
            · have e:m ≠ n:=by intro e; subst e; exact hm1 h1
              simp [hm,hm1,e]
        · simp only [h0,h1,if_false,Tr.get]
          by_cases hm:m=0
          · simp [hm,Ne.symm h0]
          · by_cases hm1:m % 2=1
            · have e:m ≠ n:=by intro e; subst e; exact h1 hm1
              simp [hm,hm1,e]
            · simp only [hm,hm1,if_false,i2]
              by_cases e:m=n
              · simp [e]
              · have:m / 2 - 1 ≠ n / 2 - 1:=by omega
                simp [e,this]

theorem Tr.get_set (t:Tr) (n m:Nat) (x:Option SBlk) : (t.set n x).get m=if m=n then x else t.get m:=Tr.get_setF n t n m x (Nat.le_refl _)

structure SH where
  old:Array Obj
  next:Nat
  m:Tr
  /-- the names that are in use -/
  live:Nat→Prop

instance:Inhabited SH:=⟨⟨#[],0,.nil,fun _ => False⟩⟩

def SH.get (H:SH) (n:Nat):Option SBlk:=H.m.get n
def SH.put (H:SH) (n:Nat) (x:Option SBlk):SH:={ H with m:=H.m.set n x }
def SH.new (H:SH) (x:SBlk):SH:={ H with m:=H.m.set H.next (some x),next:=H.next + 1,live:=fun n => H.live n∨n=H.next }

@[simp] theorem SH.get_put (H:SH) (n m:Nat) (x:Option SBlk) : (H.put n x).get m=if m=n then x else H.get m:=Tr.get_set ..
@[simp] theorem SH.get_new (H:SH) (m:Nat) (x:SBlk) : (H.new x).get m=if m=H.next then some x else H.get m:=Tr.get_set ..
@[simp] theorem SH.next_put (H:SH) (n:Nat) (x:Option SBlk) : (H.put n x).next=H.next:=rfl
@[simp] theorem SH.next_new (H:SH) (x:SBlk) : (H.new x).next=H.next + 1:=rfl
@[simp] theorem SH.live_put (H:SH) (n:Nat) (x:Option SBlk) : (H.put n x).live=H.live:=rfl
@[simp] theorem SH.live_new (H:SH) (x:SBlk) : (H.new x).live=fun n => H.live n∨n=H.next:=rfl
@[simp] theorem SH.old_put (H:SH) (n:Nat) (x:Option SBlk) : (H.put n x).old=H.old:=rfl
@[simp] theorem SH.old_new (H:SH) (x:SBlk) : (H.new x).old=H.old:=rfl

def SH.B (H:SH):Nat:=H.old.size
@[simp] theorem SH.B_put (H:SH) (n:Nat) (x:Option SBlk) : (H.put n x).B=H.B:=rfl
@[simp] theorem SH.B_new (H:SH) (x:SBlk) : (H.new x).B=H.B:=rfl

inductive TgR (B:Nat) (N:Nat→Prop) (φ:Ph):Target→Target→Prop
  | fn (f f' : Fn) (c c' : Array Value):FR B N φ f f'→AR B N φ c c'→TgR B N φ (.fn f c) (.fn f' c')
  | collected (r:Nat):B ≤ r→N r→TgR B N φ (.collected r) (.collected (φ r).b)

structure DR (B:Nat) (N:Nat→Prop) (φ:Ph) (d d' : Deferred):Prop where
  target:TgR B N φ d.target d'.target
  args:AR B N φ d.args d'.args

inductive DLR (B:Nat) (N:Nat→Prop) (φ:Ph):List Deferred→List Deferred→Prop
  | nil:DLR B N φ [] []
  | cons {d d' : Deferred} {l l' : List Deferred} : DR B N φ d d'→DLR B N φ l l'→DLR B N φ (d :: l) (d' :: l')

structure GR (B:Nat) (N:Nat→Prop) (φ:Ph) (g:List (Nat × Value)) (n:Nat) (t' : Array Value):Prop where
  size:t'.size=n
  val : ∀ t,lk g t=undef∨VR B N φ (lk g t) (t'.getD t undef)

structure LR (B:Nat) (N:Nat→Prop) (φ:Ph) (r:SLoop) (r' : Loop):Prop where
  state:r'.state=r.state
  pending:r'.pending=r.pending
  tmps:GR B N φ r.g r.n r'.tmps
  params:r'.params=r.params
  assign:r'.assign=r.assign
  body:r'.body=r.body
  defersB:B ≤ r.defers∧N r.defers
  defers:r'.defers=(φ r.defers).b

structure ER (B:Nat) (N:Nat→Prop) (φ:Ph) (e e' : MapEntry):Prop where
  key:VR B N φ e.key e'.key
  val:VR B N φ e.val e'.val
  born:e'.born=e.born

inductive OR (B:Nat) (N:Nat→Prop) (φ:Ph):Obj→Obj→Prop
  | map (es es' : Array MapEntry) (clock:Nat):es.size=es'.size→(∀ i (h:i < es.size) (h' : i < es'.size),ER B N φ es[i] es'[i])→OR B N φ (.map es clock) (.map es' clock)
  | stringIter (s:ByteArray) (pos:Nat):OR B N φ (.stringIter s pos) (.stringIter s pos)
  | deferredNone:OR B N φ (.deferred none) (.deferred none)
  | deferred (l l' : List Deferred):DLR B N φ l l'→OR B N φ (.deferred (some l)) (.deferred (some l'))

inductive BR (B:Nat) (N:Nat→Prop) (φ:Ph) (p:Pl):SBlk→Obj→Prop
  | row (c c' : Array Value) (t:Tag) (t' : TypeId):c'.size=p.o + p.k→c.size ≤ p.k→(∀ i,i < c.size→VR B N φ (c.getD i undef) (c'.getD (p.o + i) undef))→
      BR B N φ p (.row c t) (.cells c' t' (0,0))
  | obj (o o' : Obj):p.o=0→OR B N φ o o'→BR B N φ p (.obj o) o'
  | loop (l:SLoop) (l' : Loop):p.o=0→LR B N φ l l'→BR B N φ p (.loop l) (.loop l')

structure Rel (φ:Ph) (H:SH) (w:World):Prop where
  old : ∀ b,b < H.B→w.heap[b]? = H.old[b]?
  base:H.B ≤ H.next
  size:H.B ≤ w.heap.size
  dom : ∀ n,(H.get n).isSome→H.B ≤ n∧H.live n
  lt : ∀ n,H.live n→n < H.next
  own : ∀ n x,H.get n=some x→H.B ≤ (φ n).b∧∃ y,w.heap[(φ n).b]? = some y∧BR H.B H.live φ (φ n) x y
  inj : ∀ n m,(H.get n).isSome→(H.get m).isSome→(φ n).b=(φ m).b→n=m

structure Ext (φ φ' : Ph) (H H' : SH) (w w' : World):Prop where
  same : ∀ n,H.live n→φ' n=φ n
  next:H.next ≤ H'.next
  live : ∀ n,H.live n→H'.live n
  old:H'.old=H.old
  size:w.heap.size ≤ w'.heap.size
  keep : ∀ b,b < w.heap.size→(∀ n,(H.get n).isSome→(φ n).b ≠ b)→w'.heap[b]? = w.heap[b]?
  from_ : ∀ n,(H'.get n).isSome→w.heap.size ≤ (φ' n).b∨∃ m,(H.get m).isSome∧(φ m).b=(φ' n).b
  out:w'.output=w.output
  os:w'.os=w.os

section
variable {φ φ' φ'' : Ph} {H H' H'' : SH} {w w' w'' : World}

theorem Ext.refl (φ:Ph) (H:SH) (w:World):Ext φ φ H H w w :=
  ⟨fun _ _ => rfl,Nat.le_refl _,fun _ h => h,rfl,Nat.le_refl _,fun _ _ _ => rfl,fun n h => .inr ⟨n,h,rfl⟩,rfl,rfl⟩

theorem Ext.trans (h:Ext φ φ' H H' w w') (k:Ext φ' φ'' H' H'' w' w''):Ext φ φ'' H H'' w w'' where
  same n hn:=(k.same n (h.live n hn)).trans (h.same n hn)
  next:=Nat.le_trans h.next k.next
  live n hn:=k.live n (h.live n hn)
  old:=k.old.trans h.old
  size:=Nat.le_trans h.size k.size
  keep b hb hn:=by
    refine (k.keep b (Nat.lt_of_lt_of_le hb h.size) fun n hs e => ?_).trans (h.keep b hb hn)
    rcases h.from_ n hs with h1 | ⟨m,hm,e'⟩
    · omega
    · exact hn m hm (e'.trans e)
  from_ n hn:=by
    rcases k.from_ n hn with h1 | ⟨m,hm,e⟩
    · exact .inl (Nat.le_trans h.size h1)
    · rcases h.from_ m hm with h1 | ⟨m',hm',e'⟩
      · exact .inl (e ▸ h1)
      · exact .inr ⟨m',hm',e'.trans e⟩
  out:=k.out.trans h.out
  os:=k.os.trans h.os

theorem Ext.vr (x:Ext φ φ' H H' w w') {v v' : Value} (h:VR H.B H.live φ v v'):VR H'.B H'.live φ' v v':=by
  have e:H'.B=H.B:=by unfold SH.B; rw [x.old]
  rw [e]; exact h.mono x.live x.same
theorem Ext.ar (x:Ext φ φ' H H' w w') {v v' : Array Value} (h:AR H.B H.live φ v v'):AR H'.B H'.live φ' v v':=by
  have e:H'.B=H.B:=by unfold SH.B; rw [x.old]
  rw [e]; exact h.mono x.live x.same
end

section
variable {B:Nat} {N N' : Nat→Prop} {φ φ' : Ph}
theorem TgR.mono (hN : ∀ n,N n→N' n) (h : ∀ n,N n→φ' n=φ n) {f f' : Target} (r:TgR B N φ f f'):TgR B N' φ' f f':=by
  cases r with
  | fn f f' c c' hf hc => exact .fn _ _ _ _ (hf.mono hN h) (hc.mono hN h)
  | collected r h1 h2 => rw [← h r h2]; exact .collected r h1 (hN _ h2)
theorem DR.mono (hN : ∀ n,N n→N' n) (h : ∀ n,N n→φ' n=φ n) {d d' : Deferred} (r:DR B N φ d d'):DR B N' φ' d d':=⟨r.target.mono hN h,r.args.mono hN h⟩
theorem DLR.mono (hN : ∀ n,N n→N' n) (h : ∀ n,N n→φ' n=φ n) {d d' : List Deferred} (r:DLR B N φ d d'):DLR B N' φ' d d':=by
  induction r with
  | nil => exact .nil
  | cons hd _ ih => exact .cons (hd.mono hN h) ih
theorem GR.mono (hN : ∀ n,N n→N' n) (h : ∀ n,N n→φ' n=φ n) {g:List (Nat × Value)} {n:Nat} {t' : Array Value} (x:GR B N φ g n t'):GR B N' φ' g n t' :=
  ⟨x.size,fun t => (x.val t).imp id fun r => r.mono hN h⟩
theorem LR.mono (hN : ∀ n,N n→N' n) (h : ∀ n,N n→φ' n=φ n) {r:SLoop} {r' : Loop} (x:LR B N φ r r'):LR B N' φ' r r' :=
  ⟨x.state,x.pending,x.tmps.mono hN h,x.params,x.assign,x.body,⟨x.defersB.1,hN _ x.defersB.2⟩,by rw [h _ x.defersB.2]; exact x.defers⟩
theorem ER.mono (hN : ∀ n,N n→N' n) (h : ∀ n,N n→φ' n=φ n) {e e' : MapEntry} (x:ER B N φ e e'):ER B N' φ' e e':=⟨x.key.mono hN h,x.val.mono hN h,x.born⟩
theorem OR.mono (hN : ∀ n,N n→N' n) (h : ∀ n,N n→φ' n=φ n) {o o' : Obj} (x:OR B N φ o o'):OR B N' φ' o o':=by
  cases x with
  | map es es' clock hs he => exact .map es es' clock hs fun i h1 h2 => (he i h1 h2).mono hN h
  | stringIter s pos => exact .stringIter s pos
  | deferredNone => exact .deferredNone
  | deferred l l' hl => exact .deferred l l' (hl.mono hN h)
theorem BR.mono (hN : ∀ n,N n→N' n) (h : ∀ n,N n→φ' n=φ n) {p:Pl} {x:SBlk} {y:Obj} (r:BR B N φ p x y):BR B N' φ' p x y:=by
  cases r with
  | row c c' t t' h1 h2 h3 => exact .row c c' t t' h1 h2 fun i hi => (h3 i hi).mono hN h
  | obj o _ h1 h2 => exact .obj o _ h1 (h2.mono hN h)
  | loop l l' h1 h2 => exact .loop l l' h1 (h2.mono hN h)
end
end Go.Proofs.Orl

namespace Go.Proofs.Orl
open Go

structure St where
  g:List (Nat × Value)
  n:Nat
  ds:List Deferred
  H:SH

def St.ev (s:St):Operand→Value
  | .tmp t => lk s.g t
  | .const v => v
  | .global g => .pointer (some ⟨g,0,none⟩)
  | .func f => .func (.func f) #[] #[]

def St.put (s:St) (d:Option Tmp) (v:Value) (H:SH):St :=
  match d with
  | some d => { s with g:=(d,v) :: s.g,H:=H }
  | none => { s with H:=H }

structure AcR (B:Nat) (N:Nat→Prop) (φ:Ph) (s:St) (a' : Act):Prop where
  tmps:GR B N φ s.g s.n a'.tmps
  defers:DLR B N φ s.ds a'.defers

theorem AcR.mono {B:Nat} {N N' : Nat→Prop} {φ φ' : Ph} (hN : ∀ n,N n→N' n) (h : ∀ n,N n→φ' n=φ n) {a:St} {a' : Act} (r:AcR B N φ a a'):AcR B N' φ' a a':=⟨r.tmps.mono hN h,r.defers.mono hN h⟩

theorem Ext.acr {φ φ' : Ph} {H H' : SH} {w w' : World} (x:Ext φ φ' H H' w w') {a:St} {a' : Act} (h:AcR H.B H.live φ a a'):AcR H'.B H'.live φ' a a':=by
  have e:H'.B=H.B:=by unfold SH.B; rw [x.old]
  rw [e]; exact h.mono x.live x.same

def rigid:Nat→Value→Bool
  | _,.bool _ => true
  | _,.int _ _ => true
  | _,.string _ => true
  | _,.pointer none => true
  | _,.slice none _ _ => true
  | _,.map none => true
  | _,.nilFunc => true
  | _,.nilIface => true
  | _,.func (.func _) x c => x.size == 0 && c.size == 0
  | n + 1,.agg cs => cs.toList.all (rigid n)
  | n + 1,.tuple cs => cs.toList.all (rigid n)
  | n + 1,.iface _ v => rigid n v
  | _,_ => false

theorem rigid_all {B:Nat} {N:Nat→Prop} {φ:Ph} {n:Nat} {cs:Array Value} (ih : ∀ v,rigid n v=true→VR B N φ v v) (h:cs.toList.all (rigid n) = true):AR B N φ cs cs :=
  .of_get? rfl fun i v v' hv hv' => by
    rw [hv] at hv'; cases hv'
    exact ih v (by rw [List.all_eq_true] at h; exact h v (Array.mem_toList_iff.2 (Array.mem_of_getElem? hv)))

theorem rigid.vr {B:Nat} {N:Nat→Prop} {φ:Ph} : ∀ (n:Nat) (v:Value),rigid n v=true→VR B N φ v v:=by
  intro n
  induction n with
  | zero =>
    intro v h
    cases v with
    | bool b => exact .bool b
    | int k n => exact .int k n
    | string s => exact .string s
    | pointer a => cases a with | none => exact .nilPtr | some a => simp [rigid] at h
    | slice a l c => cases a with | none => exact .nilSlice l c | some a => simp [rigid] at h
    | map a => cases a with | none => exact .nilMap | some a => simp [rigid] at h
    | nilFunc => exact .nilFunc
    | nilIface => exact .nilIface
    | func f x c =>
      cases f with
      | func f =>
        simp only [rigid,Bool.and_eq_true,beq_iff_eq] at h
        exact .func _ _ _ _ _ _ (.func _) rfl (fun i hi => absurd hi (by omega)) rfl (fun i hi => absurd hi (by omega))
      | _ => simp [rigid] at h
    | agg cs => simp [rigid] at h
    | tuple cs => simp [rigid] at h
    | iface t v => simp [rigid] at h
    | float k b => simp [rigid] at h
    | complex k a b => simp [rigid] at h
    | chan r => simp [rigid] at h
  | succ n ih =>
    intro v h
    cases v with
    | bool b => exact .bool b
    | int k n => exact .int k n
    | string s => exact .string s
    | pointer a => cases a with | none => exact .nilPtr | some a => simp [rigid] at h
    | slice a l c => cases a with | none => exact .nilSlice l c | some a => simp [rigid] at h
    | map a => cases a with | none => exact .nilMap | some a => simp [rigid] at h
    | nilFunc => exact .nilFunc
    | nilIface => exact .nilIface
    | func f x c =>
      cases f with
      | func f =>
        simp only [rigid,Bool.and_eq_true,beq_iff_eq] at h
        exact .func _ _ _ _ _ _ (.func _) rfl (fun i hi => absurd hi (by omega)) rfl (fun i hi => absurd hi (by omega))
      | _ => simp [rigid] at h
    | agg cs => exact .mkAgg (rigid_all ih h)
    | tuple cs => exact .mkTuple (rigid_all ih h)
    | iface t v => exact .iface _ _ _ (ih v (by simpa [rigid] using h))
    | float k b => simp [rigid] at h
    | complex k a b => simp [rigid] at h
    | chan r => simp [rigid] at h

def okO:Operand→Bool
  | .tmp _ => true
  | .func _ => true
  | .const v => rigid 6 v
  | .global _ => false

theorem AcR.eval {B:Nat} {N:Nat→Prop} {φ:Ph} {s:St} {a' : Act} (r:AcR B N φ s a') {x:Operand} (h:okO x=true):s.ev x=undef∨VR B N φ (s.ev x) (a'.eval x):=by
  cases x with
  | tmp t => exact r.tmps.val t
  | const v => exact .inr (rigid.vr 6 v h)
  | global g => simp [okO] at h
  | func f => exact .inr (.func _ _ _ _ _ _ (.func _) rfl (fun i h => absurd h (by simp)) rfl (fun i h => absurd h (by simp)))

theorem AcR.ev {B:Nat} {N:Nat→Prop} {φ:Ph} {s:St} {a' : Act} (r:AcR B N φ s a') {x:Operand} {v:Value} (h:okO x=true) (hv:s.ev x=v) (hne:v ≠ undef):VR B N φ v (a'.eval x):=by
  rcases r.eval h with h | h
  · exact absurd (hv.symm.trans h) hne
  · rwa [hv] at h

def OpV (P:Program) (o:Oper) (s:St) (v:Value) (H' : SH):Prop :=
  (∀ c,o.op ≠ .defer c)∧∀ (φ:Ph) (w:World) (a' : Act),Rel φ s.H w→AcR s.H.B s.H.live φ s a'→
    ∃ φ' w' v',((execOp a'.eval o).run P w=.ok (.value v') w'∨((execOp a'.eval o).run P w=.ok .skip w'∧v' = undef))∧
      (v=undef∨VR H'.B H'.live φ' v v')∧Rel φ' H' w'∧Ext φ φ' s.H H' w w'

section
variable {P:Program} {o:Oper} {s:St}

theorem opv_pure {v:Value} (h0 : ∀ c,o.op ≠ .defer c)
    (h : ∀ (φ:Ph) (w:World) (a' : Act),Rel φ s.H w→AcR s.H.B s.H.live φ s a'→∃ v',(execOp a'.eval o).run P w=.ok (.value v') w∧VR s.H.B s.H.live φ v v') :
    OpV P o s v s.H :=
  ⟨h0,fun φ w a' hr ha => let ⟨v',h1,h2⟩:=h φ w a' hr ha; ⟨φ,w,v',.inl h1,.inr h2,hr,.refl _ _ _⟩⟩

theorem alloc_old (w:World) (y:Obj) {b:Nat} (h:b < w.heap.size) : (w.alloc y).heap[b]? = w.heap[b]?:=by
  show (w.heap.push y)[b]? = _
  rw [Array.getElem?_push,if_neg (by omega)]
theorem alloc_new (w:World) (y:Obj) : (w.alloc y).heap[w.heap.size]? = some y:=by
  show (w.heap.push y)[w.heap.size]? = _
  simp
theorem rel_new {φ:Ph} {H:SH} {w:World} (hr:Rel φ H w) (x:SBlk) (y:Obj) (k:Nat) (hx:BR H.B H.live φ ⟨w.heap.size,0,k⟩ x y) :
    ∃ φ',φ' H.next=⟨w.heap.size,0,k⟩∧Rel φ' (H.new x) (w.alloc y)∧Ext φ φ' H (H.new x) w (w.alloc y):=by
  refine ⟨fun n => if n=H.next then ⟨w.heap.size,0,k⟩ else φ n,by simp,?_,?_⟩
  · have hsame : ∀ n,H.live n→(fun n => if n=H.next then (⟨w.heap.size,0,k⟩ : Pl) else φ n) n=φ n:=fun n hn => by simp [Nat.ne_of_lt (hr.lt n hn)]
    have hblk : ∀ n z,H.get n=some z→H.live n∧(φ n).b < w.heap.size:=fun n z hz => by
      refine ⟨(hr.dom n (by simp [hz])).2,?_⟩
      obtain ⟨_,y',hy',_⟩:=hr.own n z hz
      exact (Array.getElem?_eq_some_iff.1 hy').1
    refine ⟨fun b hb => ?_,?_,?_,fun n hn => ?_,fun n hn => ?_,fun n z hz => ?_,fun n m hn hm e => ?_⟩
    · rw [SH.B_new] at hb
      have:=hr.size
      rw [alloc_old w y (Nat.lt_of_lt_of_le hb this)]
      exact hr.old b hb
    · have:=hr.base; simp; omega
    · have:=hr.size; simp; omega
    · have hb:=hr.base
      rw [SH.get_new] at hn
      by_cases e:n=H.next
      · simp [e]; exact hb
      · simp only [e,if_false] at hn
        have:=hr.dom n hn
        exact ⟨this.1,.inl this.2⟩
    · rcases hn with hn | hn
      · have:=hr.lt n hn; simp; omega
      · simp; omega
    · rw [SH.get_new] at hz
      by_cases e:n=H.next
      · simp only [e,if_true] at hz ⊢
        cases hz
        refine ⟨by have:=hr.size; simpa using this,y,alloc_new w y,?_⟩
        exact hx.mono (fun _ h => .inl h) hsame
      · simp only [e,if_false] at hz ⊢
        obtain ⟨h1,y',hy',hbr⟩:=hr.own n z hz
        have hlt:=(hblk n z hz).2
        exact ⟨by simpa using h1,y',(alloc_old w y hlt).trans hy',hbr.mono (fun _ h => .inl h) hsame⟩
    · rw [SH.get_new] at hn hm
      by_cases e1:n=H.next
      · by_cases e2:m=H.next
        · rw [e1,e2]
        · simp only [e1,e2,if_true,if_false] at hm e
          obtain ⟨z,hz⟩:=Option.isSome_iff_exists.1 hm
          have:=(hblk m z hz).2
          omega
      · by_cases e2:m=H.next
        · simp only [e1,e2,if_true,if_false] at hn e
          obtain ⟨z,hz⟩:=Option.isSome_iff_exists.1 hn
          have:=(hblk n z hz).2
          omega
        · simp only [e1,e2,if_false] at hn hm e
          exact hr.inj n m hn hm e
  · refine ⟨fun n hn => by simp [Nat.ne_of_lt (hr.lt n hn)],by simp,fun _ h => .inl h,rfl,by simp,fun b hb _ => alloc_old w y hb,fun n hn => ?_,rfl,rfl⟩
    rw [SH.get_new] at hn
    by_cases e:n=H.next
    · left; simp [e]
    · right; simp only [e,if_false] at hn ⊢
      exact ⟨n,hn,rfl⟩

theorem rel_turn {φ:Ph} {H:SH} {w w' : World} (hr:Rel φ H w) {n:Nat} {z x:SBlk} {y:Obj} (hz:H.get n=some z) (hy:w'.heap[(φ n).b]? = some y)
    (hx:BR H.B H.live φ (φ n) x y) (hother : ∀ b,b ≠ (φ n).b→w'.heap[b]? = w.heap[b]?) (hsize:w'.heap.size=w.heap.size) (ho:w'.output=w.output) (hos:w'.os=w.os) :
    Rel φ (H.put n (some x)) w'∧Ext φ φ H (H.put n (some x)) w w':=by
  have hnb:=hr.own n z hz
  have hgetS : ∀ m,((H.put n (some x)).get m).isSome=(H.get m).isSome:=fun m => by
    rw [SH.get_put]; by_cases e:m=n
    · simp [e,hz]
    · simp [e]
  refine ⟨⟨fun b hb => ?_,hr.base,by rw [hsize]; exact hr.size,fun m hm => hr.dom m (by rw [← hgetS]; exact hm),hr.lt,fun m u hu => ?_,fun a b ha hb => hr.inj a b (by rw [← hgetS]; exact ha) (by rw [← hgetS]; exact hb)⟩,?_⟩
  · have hlt:b < H.B:=hb
    rw [hother b (by have:=hnb.1; omega)]
    exact hr.old b hb
  · rw [SH.get_put] at hu
    by_cases e:m=n
    · simp only [e,if_true] at hu ⊢
      cases hu
      exact ⟨hnb.1,y,hy,hx⟩
    · simp only [e,if_false] at hu
      obtain ⟨h1,y',hy',hbr⟩:=hr.own m u hu
      refine ⟨h1,y',?_,hbr⟩
      rw [hother _ (fun e' => e (hr.inj m n (by simp [hu]) (by simp [hz]) e'))]
      exact hy'
  · refine ⟨fun _ _ => rfl,Nat.le_refl _,fun _ h => h,rfl,by rw [hsize]; exact Nat.le_refl _,fun b _ hn => ?_,fun m hm => .inr ⟨m,by rw [← hgetS]; exact hm,rfl⟩,ho,hos⟩
    exact hother b fun e => hn n (by simp [hz]) e.symm

theorem Rel.drop {φ:Ph} {H:SH} {w:World} (hr:Rel φ H w) (n:Nat):Rel φ (H.put n none) w:=by
  have hg : ∀ m z,(H.put n none).get m=some z→H.get m=some z:=fun m z hz => by
    rw [SH.get_put] at hz; by_cases e:m=n
    · simp [e] at hz
    · simpa [e] using hz
  have hgs : ∀ m,((H.put n none).get m).isSome→(H.get m).isSome:=fun m hm => by
    obtain ⟨z,hz⟩:=Option.isSome_iff_exists.1 hm
    simp [hg m z hz]
  exact ⟨hr.old,hr.base,hr.size,fun m hm => hr.dom m (hgs m hm),hr.lt,fun m z hz => hr.own m z (hg m z hz),fun a b ha hb => hr.inj a b (hgs a ha) (hgs b hb)⟩

theorem Rel.same_get {φ:Ph} {H H' : SH} {w:World} (hr:Rel φ H w) (hg : ∀ m,H'.get m=H.get m) (hn:H'.next=H.next) (hlv:H'.live=H.live) (ho:H'.old=H.old):Rel φ H' w:=by
  have hB:H'.B=H.B:=by unfold SH.B; rw [ho]
  refine ⟨fun b hb => by rw [ho]; exact hr.old b (hB ▸ hb),by rw [hB,hn]; exact hr.base,by rw [hB]; exact hr.size,fun n h => by rw [hB,hlv]; exact hr.dom n (hg n ▸ h),fun n h => by rw [hn]; exact hr.lt n (hlv ▸ h),fun n x hx => by rw [hB,hlv]; exact hr.own n x (hg n ▸ hx),
    fun a b ha hb e => hr.inj a b (hg a ▸ ha) (hg b ▸ hb) e⟩

theorem Ext.same_get {φ φ' : Ph} {H H1 H' : SH} {w w' : World} (x:Ext φ φ' H H1 w w') (hg : ∀ m,H'.get m=H1.get m) (hn:H'.next=H1.next) (hlv:H'.live=H1.live) (ho:H'.old=H1.old):Ext φ φ' H H' w w' :=
  ⟨x.same,by rw [hn]; exact x.next,by rw [hlv]; exact x.live,ho.trans x.old,x.size,x.keep,fun n h => x.from_ n (hg n ▸ h),x.out,x.os⟩

theorem Ext.drop (φ:Ph) (H:SH) (w:World) (n:Nat):Ext φ φ H (H.put n none) w w:=by
  refine ⟨fun _ _ => rfl,Nat.le_refl _,fun _ h => h,rfl,Nat.le_refl _,fun _ _ _ => rfl,fun m hm => .inr ⟨m,?_,rfl⟩,rfl,rfl⟩
  rw [SH.get_put] at hm; by_cases e:m=n
  · simp [e] at hm
  · simpa [e] using hm
end
end Go.Proofs.Orl

namespace Go.Proofs.Orl
open Go

def aggT (P:Program) (t:TypeId):Option Bool:=(P.underlying t).map fun | .struct _ | .array _ _ => true | _ => false
def szT (P:Program) (t:TypeId):Option Nat:=(P.info? t).map (·.size)
def zeroT (P:Program) (t:TypeId):Option Value:=(P.info? t).bind (·.zero)

section
variable {P:Program} {t:TypeId}
theorem run_aggT {b:Bool} (h:aggT P t=some b) (w:World) : (isAgg t).run P w=.ok b w:=by
  unfold aggT at h
  cases hu:P.underlying t with
  | none => simp [hu] at h
  | some d =>
    rw [hu] at h
    unfold isAgg
    rw [Sem.run_bind,run_underlying hu w]
    cases d <;> simp_all
theorem run_szT {n:Nat} (h:szT P t=some n) (w:World) : (sizeOf t).run P w=.ok n w:=by
  unfold szT at h
  cases hu:P.info? t with
  | none => simp [hu] at h
  | some d => simp [hu] at h; simp [sizeOf,typeInfo,hu,h]
theorem run_zeroT {v:Value} (h:zeroT P t=some v) (w:World) : (zeroValue t).run P w=.ok v w:=by
  unfold zeroT at h
  cases hu:P.info? t with
  | none => simp [hu] at h
  | some d => simp [hu] at h; simp [zeroValue,typeInfo,hu,h]
end

section
variable {B:Nat} {N:Nat→Prop} {φ:Ph}

theorem rigid_eq : ∀ (n:Nat) (v v' : Value),rigid n v=true→VR B N φ v v'→v' = v:=by
  have arr : ∀ n:Nat,(∀ v v',rigid n v=true→VR B N φ v v'→v' = v)→∀ x x' : Array Value,x.toList.all (rigid n) = true→x.size=x'.size→
      (∀ i,i < x.size→VR B N φ (x.getD i undef) (x'.getD i undef))→x' = x:=by
    intro n ih x x' hx hs h
    apply Array.ext hs.symm
    intro i h1 h2
    have:=h i h2
    simp only [Array.getD,h2,h1,dif_pos] at this
    exact ih _ _ (by rw [List.all_eq_true] at hx; exact hx _ (Array.mem_toList_iff.2 (Array.getElem_mem h2))) this
  intro n
  induction n with
  | zero =>
    intro v v' h r
    cases r <;> first | rfl | (simp [rigid] at h; done) | skip
    case func f f' x x' c c' hf h1 h2 h3 h4 =>
      cases hf <;> simp [rigid] at h
      obtain ⟨rfl,rfl⟩:=h
      have e1:x' = #[]:=by apply Array.eq_empty_of_size_eq_zero; simpa using h1.symm
      have e2:c' = #[]:=by apply Array.eq_empty_of_size_eq_zero; simpa using h3.symm
      rw [e1,e2]
  | succ n ih =>
    intro v v' h r
    cases r <;> first | rfl | (simp [rigid] at h; done) | skip
    case func f f' x x' c c' hf h1 h2 h3 h4 =>
      cases hf <;> simp [rigid] at h
      obtain ⟨rfl,rfl⟩:=h
      have e1:x' = #[]:=by apply Array.eq_empty_of_size_eq_zero; simpa using h1.symm
      have e2:c' = #[]:=by apply Array.eq_empty_of_size_eq_zero; simpa using h3.symm
      rw [e1,e2]
    case iface t v v' hv => rw [ih v v' (by simpa [rigid] using h) hv]
    case agg x x' h1 h2 => rw [arr n ih x x' h h1 h2]
    case tuple x x' h1 h2 => rw [arr n ih x x' h h1 h2]

theorem add_none (b k d:Nat) : (⟨b,k,none⟩ : Addr).add d=⟨b,k + d,none⟩:=by unfold Addr.add; split <;> simp_all

theorem VR.ptr_inv {n k:Nat} {v' : Value} (r:VR B N φ (.pointer (some ⟨n,k,none⟩)) v') :
    ∃ b k',v' = .pointer (some ⟨b,k',none⟩)∧(∀ d,VR B N φ (.pointer (some ⟨n,k + d,none⟩)) (.pointer (some ⟨b,k' + d,none⟩)))∧
      ((n < B∧b=n∧k' = k)∨(B ≤ n∧N n∧b=(φ n).b∧k' = (φ n).o + k)):=by
  cases r with
  | oldPtr _ h => exact ⟨n,k,rfl,fun d => .oldPtr _ h,.inl ⟨h,rfl,rfl⟩⟩
  | ptr _ _ h1 h2 => exact ⟨_,_,rfl,fun d => by have:=VR.ptr (φ:=φ) n (k + d) h1 h2; rwa [← Nat.add_assoc] at this,.inr ⟨h1,h2,rfl,rfl⟩⟩

theorem VR.slice_inv {n k l c:Nat} {v' : Value} (hl:0 < l) (r:VR B N φ (.slice (some ⟨n,k,none⟩) l c) v') :
    ∃ b k' r,v' = .slice (some ⟨b,k',none⟩) l r∧(∀ d,VR B N φ (.pointer (some ⟨n,k + d,none⟩)) (.pointer (some ⟨b,k' + d,none⟩))):=by
  cases r with
  | oldSlice _ _ _ h => exact ⟨n,k,c,rfl,fun d => .oldPtr _ h⟩
  | slice _ _ _ _ r h1 h2 h3 h4 h5 => exact ⟨_,_,r,rfl,fun d => by have:=VR.ptr (φ:=φ) n (k + d) h1 h2; rwa [← Nat.add_assoc] at this⟩
  | empty _ _ _ _ => omega

theorem VR.slice_len {a:Option Addr} {l c:Nat} {v' : Value} (r:VR B N φ (.slice a l c) v') : ∃ a' c',v' = .slice a' l c'∧(a=none ↔ a' = none):=by
  cases r with
  | nilSlice => exact ⟨_,_,rfl,by simp⟩
  | oldSlice _ _ _ h => exact ⟨_,_,rfl,by simp⟩
  | slice _ _ _ _ r h1 h2 h3 h4 h5 => exact ⟨_,_,rfl,by simp⟩
  | empty _ _ _ _ => exact ⟨_,_,rfl,by simp⟩

end

section
variable {P:Program} {o:Oper} {s:St}

theorem opv_move {x:Operand} {v:Value} (ho:o.op=.move x∨o.op=.assign x) (hx:okO x=true) (hv:s.ev x=v):OpV P o s v s.H:=by
  refine ⟨by rcases ho with h | h <;> simp [h],fun φ w a' hr ha => ⟨φ,w,a'.eval x,.inl ?_,hv ▸ ha.eval hx,hr,.refl _ _ _⟩⟩
  rcases ho with h | h <;> simp [execOp,h]

theorem opv_pick {c x y:Operand} {b:Bool} {v:Value} (ho:o.op=.pick c x y) (hc:s.ev c=.bool b) (h0:okO c=true) (h1:okO x=true) (h2:okO y=true) (hv : (if b then s.ev x else s.ev y) = v) :
    OpV P o s v s.H:=by
  refine ⟨by simp [ho],fun φ w a' hr ha => ⟨φ,w,if b then a'.eval x else a'.eval y,.inl ?_,?_,hr,.refl _ _ _⟩⟩
  · have:=ha.ev h0 hc (by simp [undef])
    simp [execOp,ho,this.bool_inv,asBool]
  · cases b
    · exact hv ▸ ha.eval h2
    · exact hv ▸ ha.eval h1

theorem opv_extract {x:Operand} {i:Nat} {vs:Array Value} {v:Value} (ho:o.op=.extract x i) (hx:okO x=true) (hv:s.ev x=.tuple vs) (hi:vs[i]? = some v):OpV P o s v s.H:=by
  refine opv_pure (by simp [ho]) fun φ w a' _ ha => ?_
  have h:=ha.ev hx hv (by intro e; cases e; simp at hi)
  obtain ⟨vs',e,hr⟩:=h.tuple_inv
  obtain ⟨v',hv',hrel⟩:=hr.get? hi
  exact ⟨v',by simp [execOp,ho,e,Instr.extract,hv'],hrel⟩

theorem part_run {t:TypeId} {cs:Array Value} {off n:Nat} {b:Bool} (ha:aggT P t=some b) (hs:szT P t=some n) (h1:b=true∨off < cs.size) (w:World) :
    (part t cs off).run P w=.ok (if b then .agg (cs.extract off (off + n)) else cs.getD off undef) w:=by
  unfold part
  rw [Sem.run_bind,run_aggT ha]
  cases b with
  | true => simp [run_szT hs]
  | false =>
    have h1' : off < cs.size:=by simpa using h1
    simp [Array.getD,h1']

theorem part_vr {B:Nat} {N:Nat→Prop} {φ:Ph} {cs cs' : Array Value} (r:AR B N φ cs cs') (b:Bool) (off n:Nat) :
    VR B N φ (if b then .agg (cs.extract off (off + n)) else cs.getD off undef) (if b then .agg (cs'.extract off (off + n)) else cs'.getD off undef):=by
  cases b
  · exact r.get off
  · exact VR.mkAgg (AR.extract r _ _)

theorem opv_field {t:TypeId} {x:Operand} {i n:Nat} {cs:Array Value} {fs:Array Field} {f:Field} {b:Bool} (ho:o.op=.field t x i) (hx:okO x=true) (hv:s.ev x=.agg cs)
    (hu:P.underlying t=some (.struct fs)) (hf:fs[i]? = some f) (ha:aggT P f.type=some b) (hs:szT P f.type=some n) (h1:b=true∨f.offset < cs.size) :
    OpV P o s (if b then .agg (cs.extract f.offset (f.offset + n)) else cs.getD f.offset undef) s.H:=by
  refine opv_pure (by simp [ho]) fun φ w a' _ hac => ?_
  have h:=hac.ev hx hv (by simp [undef])
  obtain ⟨cs',e,hr⟩:=h.agg_inv
  refine ⟨_,?_,part_vr hr b f.offset n⟩
  have:=part_run (P:=P) (cs:=cs') (off:=f.offset) ha hs (by rw [← hr.1]; exact h1) w
  simp [execOp,ho,e,Instr.field,run_underlying hu,hf,asAgg,this]

theorem opv_index_array {t:TypeId} {x i:Operand} {len n:Nat} {elem:TypeId} {k:IntKind} {iv:Int} {cs:Array Value} {b:Bool} (ho:o.op=.index t x i) (hx:okO x=true) (hi:okO i=true)
    (hv:s.ev x=.agg cs) (hiv:s.ev i=.int k iv) (hu:P.underlying t=some (.array len elem)) (ha:aggT P elem=some b) (hs:szT P elem=some n)
    (h0:0 ≤ iv) (hlt:iv < len) (h1:b=true∨iv.toNat * n < cs.size) :
    OpV P o s (if b then .agg (cs.extract (iv.toNat * n) (iv.toNat * n + n)) else cs.getD (iv.toNat * n) undef) s.H:=by
  refine opv_pure (by simp [ho]) fun φ w a' _ hac => ?_
  have h:=hac.ev hx hv (by simp [undef])
  obtain ⟨cs',e,hr⟩:=h.agg_inv
  have h2:=hac.ev hi hiv (by simp [undef])
  refine ⟨_,?_,part_vr hr b (iv.toNat * n) n⟩
  have:=part_run (P:=P) (cs:=cs') (off:=iv.toNat * n) ha hs (by rw [← hr.1]; exact h1) w
  simp [execOp,ho,e,h2.int_inv,Instr.index,asIntOf,run_underlying hu,h0,hlt,run_szT hs,this]

inductive Evs (s:St):List Operand→List Value→Prop
  | nil:Evs s [] []
  | cons {x:Operand} {v:Value} {l:List Operand} {vs:List Value} : okO x=true→s.ev x=v→v ≠ undef→Evs s l vs→Evs s (x :: l) (v :: vs)

theorem Evs.rel {xs:List Operand} {vs:List Value} (h:Evs s xs vs) {B:Nat} {N:Nat→Prop} {φ:Ph} {a' : Act} (ha:AcR B N φ s a'):AR B N φ vs.toArray (xs.toArray.map a'.eval):=by
  induction h with
  | nil => exact ⟨by simp,fun i hi => by simp at hi⟩
  | cons h1 h2 h3 _ ih =>
    have hv:=ha.ev h1 h2 h3
    have:=(AR.one hv).append ih
    simpa using this

theorem opv_makeFunc {fn:Fn} {first cap:List Operand} {vs us:List Value} (ho:o.op=.makeFunc fn first.toArray cap.toArray) (hf:FR 0 (fun _ => False) (fun _ => ⟨0,0,0⟩) fn fn) (h1:Evs s first vs) (h2:Evs s cap us) :
    OpV P o s (.func fn vs.toArray us.toArray) s.H:=by
  refine opv_pure (by simp [ho]) fun φ w a' _ ha => ⟨.func fn (first.toArray.map a'.eval) (cap.toArray.map a'.eval),by simp [execOp,ho,Instr.makeFunc],?_⟩
  have r1:=h1.rel ha
  have r2:=h2.rel ha
  refine .func _ _ _ _ _ _ ?_ r1.1 r1.2 r2.1 r2.2
  cases hf with
  | func f => exact .func f
  | via t p f b => exact .via t p f b
  | yield l h1 h2 => exact h2.elim

theorem opv_nilCheck_ptr {x:Operand} {a:Addr} (ho:o.op=.nilCheck x) (hx:okO x=true) (hv:s.ev x=.pointer (some a)):OpV P o s (.pointer (some a)) s.H:=by
  refine opv_pure (by simp [ho]) fun φ w a' _ ha => ?_
  have h:=ha.ev hx hv (by simp [undef])
  refine ⟨_,?_,h⟩
  have h' : ∃ b,a'.eval x=.pointer (some b):=by
    revert h; generalize a'.eval x=y; intro h
    cases h with
    | oldPtr => exact ⟨_,rfl⟩
    | ptr => exact ⟨_,rfl⟩
  obtain ⟨b,hb⟩:=h'
  simp [execOp,ho,hb]

theorem opv_nilCheck_func {x:Operand} {f:FuncId} {fi ca:Array Value} (ho:o.op=.nilCheck x) (hx:okO x=true) (hv:s.ev x=.func (.func f) fi ca):OpV P o s (.func (.func f) fi ca) s.H:=by
  refine opv_pure (by simp [ho]) fun φ w a' _ ha => ?_
  have h:=ha.ev hx hv (by simp [undef])
  refine ⟨_,?_,h⟩
  have h' : ∃ b c,a'.eval x=.func (.func f) b c:=by
    revert h; generalize a'.eval x=y; intro h
    cases h with
    | func f f' x x' c c' hf => cases hf; exact ⟨_,_,rfl⟩
  obtain ⟨b,c,hb⟩:=h'
  simp [execOp,ho,hb]

theorem opv_fieldAddr {t:TypeId} {x:Operand} {i n k z:Nat} {fs:Array Field} {f:Field} (ho:o.op=.fieldAddr t x i) (hx:okO x=true) (hv:s.ev x=.pointer (some ⟨n,k,none⟩))
    (hu:P.underlying t=some (.struct fs)) (hf:fs[i]? = some f) (hs:szT P f.type=some z) (hz:z ≠ 0):OpV P o s (.pointer (some ⟨n,k + f.offset,none⟩)) s.H:=by
  refine opv_pure (by simp [ho]) fun φ w a' _ ha => ?_
  have h:=ha.ev hx hv (by simp [undef])
  obtain ⟨b,k',e,hm,_⟩:=h.ptr_inv
  exact ⟨_,by simp [execOp,ho,e,Instr.fieldAt,run_underlying hu,hf,Instr.sureAddr,fieldPlace,run_szT hs,hz,add_none],hm f.offset⟩

theorem opv_indexAddr {t elem:TypeId} {x i:Operand} {n k l c z:Nat} {kd:IntKind} {iv:Int} (ho:o.op=.indexAddr t x i) (hx:okO x=true) (hi:okO i=true) (hv:s.ev x=.slice (some ⟨n,k,none⟩) l c)
    (hiv:s.ev i=.int kd iv) (hu:P.underlying t=some (.slice elem)) (hs:szT P elem=some z) (h0:0 ≤ iv) (hlt:iv < l):OpV P o s (.pointer (some ⟨n,k + iv.toNat * z,none⟩)) s.H:=by
  refine opv_pure (by simp [ho]) fun φ w a' _ ha => ?_
  have h:=ha.ev hx hv (by simp [undef])
  obtain ⟨b,k',r,e,hm⟩:=h.slice_inv (by omega)
  have h2:=ha.ev hi hiv (by simp [undef])
  exact ⟨_,by simp [execOp,ho,e,h2.int_inv,Instr.indexAt,asIntOf,run_underlying hu,h0,hlt,run_szT hs,add_none],hm (iv.toNat * z)⟩

theorem opv_indexAddr_array {t elem:TypeId} {x i:Operand} {n k len z:Nat} {kd:IntKind} {iv:Int} (ho:o.op=.indexAddr t x i) (hx:okO x=true) (hi:okO i=true) (hv:s.ev x=.pointer (some ⟨n,k,none⟩))
    (hiv:s.ev i=.int kd iv) (hu:P.underlying t=some (.array len elem)) (hs:szT P elem=some z) (h0:0 ≤ iv) (hlt:iv < len):OpV P o s (.pointer (some ⟨n,k + iv.toNat * z,none⟩)) s.H:=by
  refine opv_pure (by simp [ho]) fun φ w a' _ ha => ?_
  have h:=ha.ev hx hv (by simp [undef])
  obtain ⟨b,k',e,hm,_⟩:=h.ptr_inv
  have h2:=ha.ev hi hiv (by simp [undef])
  exact ⟨_,by simp [execOp,ho,e,h2.int_inv,Instr.indexAt,asIntOf,run_underlying hu,h0,hlt,run_szT hs,Instr.sureAddr,add_none],hm (iv.toNat * z)⟩

def ldV (b:Bool) (c:Array Value) (k z:Nat):Value:=if b then .agg (c.extract k (k + z)) else c.getD k undef

theorem loadVar_run {t:TypeId} {b:Bool} {z:Nat} {w:World} {g k:Nat} {c:Array Value} {e:TypeId} {fr:Nat × Nat} (ha:aggT P t=some b) (hs:szT P t=some z) (hg:w.heap[g]? = some (.cells c e fr))
    (hk:k + z ≤ c.size) (hb:b=true∨z=1) : (loadVar t ⟨g,k,none⟩).run P w=.ok (ldV b c k z) w:=by
  unfold loadVar
  rw [Sem.run_bind,run_aggT ha]
  cases b with
  | true =>
    have hl:=run_loadCells_list (P:=P) w ⟨g,k,none⟩ ((c.extract k (k + z)).toList) fun j v hj => by
      rw [add_none]
      simp only [Array.getElem?_toList,Array.getElem?_extract] at hj
      split at hj
      · simp [World.cell?,hg,hj]
      · cases hj
    have hlen : ((c.extract k (k + z)).toList).length=z:=by simp; omega
    rw [hlen,Array.toArray_toList] at hl
    simp only [if_true,Sem.run_bind,Result.andThen_ok,run_szT hs,hl,ldV]
    rfl
  | false =>
    have hz:z=1:=by simpa using hb
    have hk' : k < c.size:=by omega
    have:w.cell? ⟨g,k,none⟩ = some c[k]:=by simp [World.cell?,hg,hk']
    simp [this,ldV,Array.getD,hk']

theorem load_core {φ:Ph} {H:SH} {w:World} {t:TypeId} {n k z:Nat} {b:Bool} {c:Array Value} {e:Tag} {p' : Value} (hr:Rel φ H w) (h:VR H.B H.live φ (.pointer (some ⟨n,k,none⟩)) p')
    (ha:aggT P t=some b) (hs:szT P t=some z) (hn:H.get n=some (.row c e)) (hk:k + z ≤ c.size) (hb:b=true∨z=1) :
    ∃ g k' v',p' = .pointer (some ⟨g,k',none⟩)∧(loadVar t ⟨g,k',none⟩).run P w=.ok v' w∧VR H.B H.live φ (ldV b c k z) v':=by
  obtain ⟨g,k',e',hm,hwhere⟩:=h.ptr_inv
  obtain ⟨hnB,y,hy,hbr⟩:=hr.own n _ hn
  have hd:=hr.dom n (by simp [hn])
  rcases hwhere with ⟨h1,_⟩ | ⟨h1,h2,rfl,rfl⟩
  · omega
  · cases hbr with
    | row _ c' _ t' hc1 hc2 hc3 =>
      have hl:=loadVar_run (P:=P) (k:=(φ n).o + k) ha hs hy (by omega) hb
      refine ⟨_,_,ldV b c' ((φ n).o + k) z,e',hl,?_⟩
      cases b with
      | true =>
        refine VR.mkAgg (.of_get? (by simp; omega) fun i v v' hv1 hv2 => ?_)
        simp only [Array.getElem?_extract] at hv1 hv2
        split at hv1 <;> split at hv2 <;> first | cases hv1; done | cases hv2; done | skip
        have:=hc3 (k + i) (by omega)
        have e1:c.getD (k + i) undef=v:=by simp [Array.getD,Array.getElem?_eq_some_iff] at hv1 ⊢; obtain ⟨_,h⟩:=hv1; simp [h]; omega
        have e2:c'.getD ((φ n).o + (k + i)) undef=v':=by
          rw [← Nat.add_assoc]
          simp [Array.getD,Array.getElem?_eq_some_iff] at hv2 ⊢; obtain ⟨_,h⟩:=hv2; simp [h]; omega
        rwa [e1,e2] at this
      | false =>
        have hz:z=1:=by simpa using hb
        exact hc3 k (by omega)

theorem opv_load {t:TypeId} {x:Operand} {n k z:Nat} {b:Bool} {c:Array Value} {e:Tag} (ho:o.op=.load t x) (hx:okO x=true) (hv:s.ev x=.pointer (some ⟨n,k,none⟩))
    (ha:aggT P t=some b) (hs:szT P t=some z) (hn:s.H.get n=some (.row c e)) (hk:k + z ≤ c.size) (hb:b=true∨z=1):OpV P o s (ldV b c k z) s.H:=by
  refine opv_pure (by simp [ho]) fun φ w a' hr hac => ?_
  have h:=hac.ev hx hv (by simp [undef])
  obtain ⟨g,k',v',e',hl,hvr⟩:=load_core (P:=P) hr h ha hs hn hk hb
  exact ⟨v',by simp only [execOp,ho,e',Instr.loadAt,Instr.sureAddr,Sem.run_bind,Sem.run_pure,Result.andThen_ok,hl],hvr⟩

def OldV (B:Nat) (v:Value):Prop:=∀ N φ,VR B N φ v v

theorem opv_load_old {t:TypeId} {x:Operand} {n k z:Nat} {b:Bool} {c:Array Value} {e:TypeId} {fr:Nat × Nat} (ho:o.op=.load t x) (hx:okO x=true) (hv:s.ev x=.pointer (some ⟨n,k,none⟩))
    (ha:aggT P t=some b) (hs:szT P t=some z) (hnB:n < s.H.B) (hn:s.H.old[n]? = some (.cells c e fr)) (hk:k + z ≤ c.size) (hb:b=true∨z=1)
    (hold : ∀ i,i < z→OldV s.H.B (c.getD (k + i) undef)):OpV P o s (ldV b c k z) s.H:=by
  refine opv_pure (by simp [ho]) fun φ w a' hr hac => ?_
  have h:=hac.ev hx hv (by simp [undef])
  obtain ⟨g,k',e',hm,hwhere⟩:=h.ptr_inv
  have hy:=(hr.old n hnB).trans hn
  rcases hwhere with ⟨h1,rfl,rfl⟩ | ⟨h1,_⟩
  · have hl:=loadVar_run ha hs hy hk hb
    refine ⟨ldV b c k' z,by simp only [execOp,ho,e',Instr.loadAt,Instr.sureAddr,Sem.run_bind,Sem.run_pure,Result.andThen_ok,hl],?_⟩
    cases b with
    | true =>
      refine VR.mkAgg (.of_get? rfl fun i v v' hv1 hv2 => ?_)
      rw [hv1] at hv2; cases hv2
      simp only [Array.getElem?_extract] at hv1
      split at hv1
      · rename_i hi
        have:=hold i (by omega) s.H.live φ
        have e1:c.getD (k' + i) undef=v:=by simp [Array.getD,Array.getElem?_eq_some_iff] at hv1 ⊢; obtain ⟨_,h⟩:=hv1; simp [h]; omega
        rwa [e1] at this
      · cases hv1
    | false =>
      have hz:z=1:=by simpa using hb
      simpa [ldV] using hold 0 (by omega) s.H.live φ
  · omega
end
end Go.Proofs.Orl

namespace Go.Proofs.Orl
open Go

section
variable {B:Nat} {N:Nat→Prop} {φ:Ph}
inductive PR (B:Nat) (N:Nat→Prop) (φ:Ph):List (Nat × Value)→List (Nat × Value)→Prop
  | nil:PR B N φ [] []
  | cons (i:Nat) {v v' : Value} {l l' : List (Nat × Value)} : VR B N φ v v'→PR B N φ l l'→PR B N φ ((i,v) :: l) ((i,v') :: l')

theorem fold_rel (off:Nat) : ∀ (l l' : List Value) (st:Nat) (cs cs' : Array Value),l.length=l'.length→(∀ i,i < l.length→VR B N φ (l.getD i undef) (l'.getD i undef))→AR B N φ cs cs'→
    AR B N φ ((l.zipIdx st).foldl (fun cs (c,j) => cs.setIfInBounds (off + j) c) cs) ((l'.zipIdx st).foldl (fun cs (c,j) => cs.setIfInBounds (off + j) c) cs'):=by
  intro l
  induction l with
  | nil => intro l' st cs cs' hl _ hc; cases l' with | nil => exact hc | cons => simp at hl
  | cons v l ih =>
    intro l' st cs cs' hl hv hc
    cases l' with
    | nil => simp at hl
    | cons v' l' =>
      simp only [List.zipIdx_cons,List.foldl_cons]
      refine ih l' (st + 1) _ _ (by simpa using hl) (fun i hi => ?_) (hc.set (by simpa using hv 0 (by simp)) _)
      have:=hv (i + 1) (by simpa using hi)
      simpa using this

theorem fill_rel (place:Nat→Option (Nat × Nat)) : ∀ (parts parts' : List (Nat × Value)) (cs cs' r:Array Value),PR B N φ parts parts'→AR B N φ cs cs'→Instr.fill place cs parts=some r→
    ∃ r',Instr.fill place cs' parts' = some r'∧AR B N φ r r':=by
  intro parts
  induction parts with
  | nil => intro parts' cs cs' r hp hc h; cases hp; simp [Instr.fill] at h ⊢; subst h; exact hc
  | cons p parts ih =>
    intro parts' cs cs' r hp hc h
    cases hp with
    | cons i hv hl =>
      rename_i v v' l'
      simp only [Instr.fill] at h ⊢
      cases hpl:place i with
      | none => simp [hpl] at h
      | some x =>
        obtain ⟨off,size⟩:=x
        simp only [hpl] at h ⊢
        have hcells:=hv.cells
        rw [← hcells.1,← hc.1]
        split at h
        · cases h
        · rename_i hno
          rw [if_neg hno]
          refine ih l' _ _ r hl ?_ h
          have:=fold_rel (B:=B) (N:=N) (φ:=φ) off v.cells.toList v'.cells.toList 0 cs cs' (by simpa using hcells.1) (fun i hi => by
            have:=hcells.2 i (by simpa using hi)
            simpa [List.getD,Array.getD_eq_getD_getElem?] using this) hc
          rw [← Array.foldl_toList,← Array.foldl_toList,Array.toList_zipIdx,Array.toList_zipIdx]
          exact this
end

section
variable {P:Program} {o:Oper} {s:St}

theorem opv_alloc {t:TypeId} {z:Value} (ho:o.op=.alloc t) (hz:zeroT P t=some z) (hr:rigid 6 z=true) :
    OpV P o s (.pointer (some ⟨s.H.next,0,none⟩)) (s.H.new (.row z.cells .raw)):=by
  refine ⟨by simp [ho],fun φ w a' hrel ha => ?_⟩
  have hzr:AR s.H.B s.H.live φ z.cells z.cells:=(rigid.vr 6 z hr).cells
  obtain ⟨φ',hφ,hrel',hext⟩:=rel_new hrel (.row z.cells .raw) (.cells z.cells t) z.cells.size (.row _ _ _ _ (by simp) (Nat.le_refl _) fun i hi => by simpa using hzr.2 i hi)
  refine ⟨φ',w.alloc (.cells z.cells t),.pointer (some ⟨w.heap.size,0,none⟩),.inl ?_,.inr ?_,hrel',hext⟩
  · simp [execOp,ho,Instr.alloc,run_zeroT hz,newVar,newRow]
  · have:=VR.ptr (B:=s.H.B) (N:=(s.H.new default).live) (φ:=φ') s.H.next 0 hrel.base (.inr rfl)
    rw [hφ] at this
    simpa using this

theorem opv_box {t:TypeId} {x:Operand} {v:Value} (ho:o.op=.box t x) (hx:okO x=true) (hv:s.ev x=v) (hne:v ≠ undef) :
    OpV P o s (.pointer (some ⟨s.H.next,0,none⟩)) (s.H.new (.row v.cells .raw)):=by
  refine ⟨by simp [ho],fun φ w a' hrel ha => ?_⟩
  have hzr:=(ha.ev hx hv hne).cells
  obtain ⟨φ',hφ,hrel',hext⟩:=rel_new hrel (.row v.cells .raw) (.cells (a'.eval x).cells t) (a'.eval x).cells.size (.row _ _ _ _ (by simp) (by rw [hzr.1]; exact Nat.le_refl _) fun i hi => by simpa using hzr.2 i hi)
  refine ⟨φ',w.alloc (.cells (a'.eval x).cells t),.pointer (some ⟨w.heap.size,0,none⟩),.inl ?_,.inr ?_,hrel',hext⟩
  · simp [execOp,ho,Instr.box,newVar,newRow]
  · have:=VR.ptr (B:=s.H.B) (N:=(s.H.new default).live) (φ:=φ') s.H.next 0 hrel.base (.inr rfl)
    rw [hφ] at this
    simpa using this

inductive Pts (s:St):List (Nat × Operand)→List (Nat × Value)→Prop
  | nil:Pts s [] []
  | cons {i:Nat} {x:Operand} {v:Value} {l:List (Nat × Operand)} {vs:List (Nat × Value)} : okO x=true→s.ev x=v→v ≠ undef→Pts s l vs→Pts s ((i,x) :: l) ((i,v) :: vs)

theorem parts_rel {φ:Ph} {B:Nat} {N:Nat→Prop} {a' : Act} (ha:AcR B N φ s a') {parts:List (Nat × Operand)} {vs:List (Nat × Value)} (h:Pts s parts vs) :
    PR B N φ vs (parts.toArray.map fun (i,x) => (i,a'.eval x)).toList:=by
  have:PR B N φ vs (parts.map fun (i,x) => (i,a'.eval x)):=by
    induction h with
    | nil => exact .nil
    | cons h1 h2 h3 _ ih => exact .cons _ (ha.ev h1 h2 h3) ih
  simpa using this

theorem opv_build {t:TypeId} {parts:List (Nat × Operand)} {vs:List (Nat × Value)} {cells:Array Value} {z:Value} (ho:o.op=.build t parts.toArray) (hok:Pts s parts vs) (hz:zeroT P t=some z) (hr:rigid 6 z=true)
    (h:P.built t vs=some cells):OpV P o s (.agg cells) s.H:=by
  refine opv_pure (by simp [ho]) fun φ w a' _ ha => ?_
  have hzr:AR s.H.B s.H.live φ z.cells z.cells:=(rigid.vr 6 z hr).cells
  have hpr:=parts_rel ha hok
  have hb : ∃ cells',P.built t (parts.toArray.map fun (i,x) => (i,a'.eval x)).toList=some cells'∧AR s.H.B s.H.live φ cells cells':=by
    unfold Program.built at h ⊢
    unfold zeroT at hz
    cases hi:P.info? t with
    | none => simp [hi] at h
    | some it =>
      simp only [hi,Option.bind_some] at h hz ⊢
      cases hu:P.underlying t with
      | none => simp [hu] at h
      | some d =>
        cases d <;> simp only [hu,hz] at h ⊢ <;> first | (cases h; done) | skip
        case struct fields =>
          generalize (fields.toList.mapM fun f => (P.info? f.type).map fun i => (f.offset,i.size)) = pl at h ⊢
          cases pl with
          | none => cases h
          | some pl => exact fill_rel _ _ _ _ _ _ hpr hzr h
        case array n e =>
          cases he:P.info? e with
          | none => simp [he] at h
          | some ie => simp only [he] at h ⊢; exact fill_rel _ _ _ _ _ _ hpr hzr h
  obtain ⟨cells',h1,h2⟩:=hb
  have hrun:=run_build (P:=P) w t _ cells' h1
  refine ⟨.agg cells',?_,.mkAgg h2⟩
  simp only [execOp,ho,Sem.run_bind]
  exact congrArg (fun r:Result Value => r.andThen fun a w' => (Pure.pure (Next.value a):Sem Next).run P w') hrun

theorem opv_buildSlice {t e:TypeId} {len n:Nat} {parts:List (Nat × Operand)} {vs:List (Nat × Value)} {cells:Array Value} {z:Value} (ho:o.op=.buildSlice t len parts.toArray) (hok:Pts s parts vs)
    (hu:P.underlying t=some (.slice e)) (hs:szT P e=some n) (hz:zeroT P e=some z) (hr:rigid 6 z=true) (hsmall : ¬ len * n > 2 ^ 24) (hpos:len * n ≠ 0) (hzn:z.cells.size=n)
    (h:Instr.fill (fun i => some (i * n,n)) ((Array.range (len * n)).map (z.cells[· % z.cells.size]!)) vs=some cells) (hc:cells.size=len * n) :
    OpV P o s (.slice (some ⟨s.H.next,0,none⟩) len n) (s.H.new (.row cells .raw)):=by
  refine ⟨by simp [ho],fun φ w a' hrel ha => ?_⟩
  have hzr:AR s.H.B s.H.live φ z.cells z.cells:=(rigid.vr 6 z hr).cells
  have hpr:=parts_rel ha hok
  have hz0:AR s.H.B s.H.live φ ((Array.range (len * n)).map (z.cells[· % z.cells.size]!)) ((Array.range (len * n)).map (z.cells[· % z.cells.size]!)):=by
    refine .of_get? rfl fun i v v' hv hv' => ?_
    rw [hv] at hv'; cases hv'
    simp only [Array.getElem?_map,Option.map_eq_some_iff] at hv
    obtain ⟨j,hj,rfl⟩:=hv
    have hpos' : 0 < z.cells.size:=by rw [hzn]; exact Nat.pos_of_ne_zero fun e => hpos (by simp [e])
    have hlt:=Nat.mod_lt j hpos'
    have:=hzr.2 (j % z.cells.size) hlt
    simpa [Array.getD,hlt,getElem!_pos,hlt] using this
  obtain ⟨cells',h1,h2⟩:=fill_rel _ _ _ _ _ _ hpr hz0 h
  obtain ⟨φ',hφ,hrel',hext⟩:=rel_new hrel (.row cells .raw) (.cells cells' e) (len * n) (.row _ _ _ _ (by simp [← h2.1,hc]) (by rw [hc]; exact Nat.le_refl _) fun i hi => by simpa using h2.2 i hi)
  refine ⟨φ',w.alloc (.cells cells' e),.slice (some ⟨w.heap.size,0,none⟩) len len,.inl ?_,.inr ?_,hrel',hext⟩
  · have : (Instr.buildSlice t len (parts.toArray.map fun (i,x) => (i,a'.eval x))).run P w=.ok (.slice (some ⟨w.heap.size,0,none⟩) len len) (w.alloc (.cells cells' e)):=by
      unfold Instr.buildSlice
      simp only [Sem.run_bind,run_underlying hu,Result.andThen_ok,run_szT hs,hsmall,if_false,hpos,run_zeroT hz,Sem.run_pure,h1,newRow,run_newObj_alloc]
    simp only [execOp,ho,Sem.run_bind]
    exact congrArg (fun r:Result Value => r.andThen fun a w' => (Pure.pure (Next.value a):Sem Next).run P w') this
  · have:=VR.slice (B:=s.H.B) (N:=(s.H.new default).live) (φ:=φ') s.H.next 0 len n len hrel.base (.inr rfl) (Nat.le_refl _) (fun _ => rfl) (by rw [hφ]; simp)
    rw [hφ] at this
    simpa using this

theorem opv_buildSlice0 {t e:TypeId} {n:Nat} (ho:o.op=.buildSlice t 0 #[]) (hu:P.underlying t=some (.slice e)) (hs:szT P e=some n) :
    OpV P o s (.slice (some ⟨s.H.next,0,none⟩) 0 n) (s.H.new (.row #[] .raw)):=by
  refine ⟨by simp [ho],fun φ w a' hrel ha => ?_⟩
  obtain ⟨φ',hφ,hrel',hext⟩:=rel_new hrel (.row #[] .raw) (.cells #[] e) 0 (.row _ _ _ _ (by simp) (Nat.le_refl _) fun i hi => by simp at hi)
  refine ⟨φ',w.alloc (.cells #[] e),.slice (some ⟨w.heap.size,0,none⟩) 0 0,.inl ?_,.inr (.empty _ _ _ fun _ => .inr rfl),hrel',hext⟩
  have : (Instr.buildSlice t 0 #[]).run P w=.ok (.slice (some ⟨w.heap.size,0,none⟩) 0 0) (w.alloc (.cells #[] e)):=by
    unfold Instr.buildSlice
    simp [run_underlying hu,run_szT hs,Instr.fill,newRow]
    congr 2
    apply Array.eq_empty_of_size_eq_zero
    simp
  simp [execOp,ho,this]

def stC (c:Array Value) (k:Nat) (vs:Array Value):Array Value:=(c.toList.take k++vs.toList++c.toList.drop (k + vs.size)).toArray

theorem stC_size {c vs:Array Value} {k:Nat} (h:k + vs.size ≤ c.size) : (stC c k vs).size=c.size:=by
  simp [stC]; omega

theorem stC_get {c vs:Array Value} {k i:Nat} (h:k + vs.size ≤ c.size) : (stC c k vs)[i]? = if k ≤ i∧i < k + vs.size then vs[i - k]? else c[i]?:=by
  unfold stC
  simp only [List.getElem?_toArray,List.getElem?_append,List.length_append,List.length_take,Array.length_toList,List.getElem?_take,List.getElem?_drop,Array.getElem?_toList]
  have hk:min k c.size=k:=by omega
  rw [hk]
  by_cases h1:i < k
  · have h2:i < k + vs.size:=by omega
    simp [h1,h2] <;> omega
  · by_cases h2:i < k + vs.size
    · simp [h1,h2] <;> omega
    · simp only [h2,if_false,and_false]
      congr 1; omega

theorem getD_of_get? {c:Array Value} {i:Nat} {v:Value} (h:c[i]? = some v):c.getD i undef=v:=by
  obtain ⟨h1,h2⟩:=Array.getElem?_eq_some_iff.1 h
  simp [Array.getD,h1,h2]

def leafs (v:Value):Bool:=v.cells.toList.all (·.oneCell')

theorem oneCell_rel {B:Nat} {N:Nat→Prop} {φ:Ph} {v v' : Value} (r:VR B N φ v v'):v'.oneCell' = v.oneCell':=by cases r <;> rfl

theorem opv_store {t:TypeId} {x y:Operand} {n k z:Nat} {c:Array Value} {e:Tag} {u:Value} (ho:o.op=.store t x y) (hx:okO x=true) (hy:okO y=true) (hv:s.ev x=.pointer (some ⟨n,k,none⟩)) (hu:s.ev y=u) (hne:u ≠ undef)
    (hs:szT P t=some z) (hz:u.cells.size=z) (hl:leafs u=true) (hn:s.H.get n=some (.row c e)) (hk:k + z ≤ c.size) :
    OpV P o s undef (s.H.put n (some (.row (stC c k u.cells) e))):=by
  refine ⟨by simp [ho],fun φ w a' hr hac => ?_⟩
  have h:=hac.ev hx hv (by simp [undef])
  obtain ⟨g,k',e',hm,hwhere⟩:=h.ptr_inv
  obtain ⟨hnB,y',hy',hbr⟩:=hr.own n _ hn
  have hd:=hr.dom n (by simp [hn])
  have hcs:=(hac.ev hy hu hne).cells
  have hss:=hcs.1
  generalize hvv:u.cells=vs at *
  generalize hvv' : (a'.eval y).cells=vs' at *
  rcases hwhere with ⟨h1,_⟩ | ⟨h1,h2,rfl,rfl⟩
  · omega
  · cases hbr with
    | row _ c' _ t' hc1 hc2 hc3 =>
      have hall : ∀ v ∈ vs'.toList,v.oneCell' = true:=fun v hv1 => by
        obtain ⟨i,hi⟩:=List.mem_iff_getElem?.1 hv1
        have hi' : vs'[i]? = some v:=by simpa using hi
        have hlt:i < vs.size:=by rw [hcs.1]; exact (Array.getElem?_eq_some_iff.1 hi').1
        obtain ⟨v',hv',hrv⟩:=hcs.get? (i:=i) (v:=vs[i]) (by simp [hlt])
        rw [hi'] at hv'; cases hv'
        rw [oneCell_rel hrv]
        unfold leafs at hl
        rw [hvv,List.all_eq_true] at hl
        exact hl _ (Array.mem_toList_iff.2 (Array.getElem_mem hlt))
      have hst:=run_storeCells_at (P:=P) (φ n).b ((φ n).o + k) t' vs'.toList 0 c' w hy' (by simp; omega) hall
      have hrow : (c'.toList.take ((φ n).o + k + 0)++vs'.toList++c'.toList.drop ((φ n).o + k + 0 + vs'.toList.length)).toArray=stC c' ((φ n).o + k) vs':=by simp [stC]
      rw [hrow] at hst
      have hrun : (execOp a'.eval o).run P w=.ok .skip (w.setRow (φ n).b (stC c' ((φ n).o + k) vs')):=by
        have hsz : ¬ vs'.size ≠ z:=by omega
        simp only [execOp,ho,e',Instr.storeAt,Instr.sureAddr,storeVar,Sem.run_bind,Sem.run_pure,Result.andThen_ok,run_szT hs,hvv',if_neg hsz,hst]
      have hb:=rel_turn hr (n:=n) (x:=.row (stC c k vs) e) (y:=.cells (stC c' ((φ n).o + k) vs') t' (0,0)) (w':=w.setRow (φ n).b (stC c' ((φ n).o + k) vs')) hn (setRow_heap w _ _ _ _ _ hy')
        (.row _ _ _ _ (by rw [stC_size (by omega)]; exact hc1) (by rw [stC_size (by omega)]; exact hc2) fun i hi => by
          rw [stC_size (by omega)] at hi
          have hi2 : (φ n).o + i < c'.size:=by omega
          by_cases hin:k ≤ i∧i < k + vs.size
          · have g1:=stC_get (c:=c) (vs:=vs) (k:=k) (i:=i) (by omega)
            have g2:=stC_get (c:=c') (vs:=vs') (k:=(φ n).o + k) (i:=(φ n).o + i) (by omega)
            rw [if_pos hin] at g1
            rw [if_pos (by omega),show (φ n).o + i - ((φ n).o + k) = i - k from by omega] at g2
            have hlt:i - k < vs.size:=by omega
            obtain ⟨v',hv',hrv⟩:=hcs.get? (i:=i - k) (v:=vs[i - k]) (by simp [hlt])
            rw [hv'] at g2
            rw [show vs[i - k]? = some vs[i - k] from by simp [hlt]] at g1
            rw [getD_of_get? g1,getD_of_get? g2]
            exact hrv
          · have g1:=stC_get (c:=c) (vs:=vs) (k:=k) (i:=i) (by omega)
            have g2:=stC_get (c:=c') (vs:=vs') (k:=(φ n).o + k) (i:=(φ n).o + i) (by omega)
            rw [if_neg hin,show c[i]? = some c[i] from by simp [hi]] at g1
            rw [if_neg (by omega),show c'[(φ n).o + i]? = some c'[(φ n).o + i] from by simp [hi2]] at g2
            rw [getD_of_get? g1,getD_of_get? g2]
            have:=hc3 i hi
            simpa [Array.getD,hi,hi2] using this)
        (fun b hb => by simp [World.setRow,Array.getElem?_modify,Ne.symm hb]) (by simp [World.setRow]) rfl rfl
      exact ⟨φ,_,undef,.inr ⟨hrun,rfl⟩,.inl rfl,hb.1,hb.2⟩
end
end Go.Proofs.Orl

namespace Go.Proofs.Orl
open Go

section
variable {P:Program} {o:Oper} {s:St}

theorem builtin_exec {b:Builtin} {args:Array Operand} {ts:Array TypeId} (ho:o.op=.call { callee:=.builtin b,args:=args,argTypes:=ts }) (ρ:Operand→Value) :
    ∃ consts,execOp ρ o=builtin b ts o.type consts (args.map ρ) :=
  ⟨args.map fun | .const _ => true | _ => false,by simp [execOp,ho,resolve,invoke]; rfl⟩

theorem eval_const (a:Act) (v:Value):a.eval (.const v) = v:=rfl

theorem opv_len_slice {t e:TypeId} {x:Operand} {a:Option Addr} {l c:Nat} (ho:o.op=.call { callee:=.builtin .len,args:=#[x],argTypes:=#[t] }) (hx:okO x=true)
    (hv:s.ev x=.slice a l c) (hu:P.underlying t=some (.slice e)):OpV P o s (.int .i64 l) s.H:=by
  refine opv_pure (by simp [ho]) fun φ w a' _ ha => ?_
  have h:=ha.ev hx hv (by simp [undef])
  obtain ⟨a2,c2,e2,_⟩:=h.slice_len
  refine ⟨.int .i64 l,?_,.int _ _⟩
  obtain ⟨cs,hcs⟩:=builtin_exec ho a'.eval
  rw [hcs]
  simp [builtin,Builtin.len_,run_underlying hu,e2,goInt]

theorem sliceBound_run {v:Value} {k:IntKind} {i:Int} {y:Nat} {code:BoundsCode} (hv:v=.int k i) (h0:0 ≤ i) (h1:i ≤ y) (w:World) :
    (Instr.sliceBound v y code).run P w=.ok i.toNat w:=by
  subst hv
  simp [Instr.sliceBound,asIntOf,h0,h1]

def bnd (s:St) (x:Option Operand) (dflt:Nat) (n:Nat):Prop :=
  match x with
  | none => n=dflt
  | some x => okO x=true∧∃ k i,s.ev x=.int k i∧0 ≤ i∧i.toNat=n

theorem sliceBounds_run {s:St} {a' : Act} {B:Nat} {N:Nat→Prop} {φ:Ph} (ha:AcR B N φ s a') {lo hi:Option Operand} {l h len cap:Nat} {b:Bool} (hl:bnd s lo 0 l) (hh:bnd s hi len h)
    (h1:l ≤ h) (h2:h ≤ len) (h3:len ≤ cap) (w:World) : (Instr.sliceBounds b len cap (lo.map a'.eval) (hi.map a'.eval) none).run P w=.ok (l,h,cap) w:=by
  have key : ∀ (x:Operand) (k:IntKind) (i:Int),okO x=true→s.ev x=.int k i→a'.eval x=.int k i:=fun x k i hx he => (ha.ev hx he (by simp [undef])).int_inv
  unfold Instr.sliceBounds
  cases hi with
  | none =>
    simp only [bnd] at hh
    subst hh
    cases lo with
    | none =>
      simp only [bnd] at hl
      subst hl
      simp
    | some x =>
      obtain ⟨hx,k,i,he,h0,hn⟩:=hl
      simp only [Option.map_some,Option.map_none,Sem.run_bind,Sem.run_pure,Result.andThen_ok]
      rw [sliceBound_run (key x k i hx he) h0 (by omega)]
      simp [hn]
  | some y =>
    obtain ⟨hy,k2,i2,he2,h02,hn2⟩:=hh
    simp only [Option.map_some,Sem.run_bind,Sem.run_pure,Result.andThen_ok]
    rw [sliceBound_run (key y k2 i2 hy he2) h02 (by omega)]
    cases lo with
    | none =>
      simp only [bnd] at hl
      subst hl
      simp [hn2]
    | some x =>
      obtain ⟨hx,k,i,he,h0,hn⟩:=hl
      simp only [Option.map_some,Sem.run_bind,Result.andThen_ok,Option.isSome_none]
      rw [sliceBound_run (key x k i hx he) h0 (by omega)]
      simp [hn,hn2]

theorem sliceAt_slice {t e:TypeId} (hu:P.underlying t=some (.slice e)) (x:Value) (lo hi mx:Option Value) (w:World) :
    (Instr.sliceAt t x lo hi mx).run P w=(Instr.slice t x lo hi mx).run P w:=by
  unfold Instr.sliceAt
  rw [Sem.run_bind,run_underlying hu]
  rfl

theorem opv_slice {t e:TypeId} {x:Operand} {lo hi:Option Operand} {n k l h len z:Nat} (hz:z ≠ 0) (ho:o.op=.slice t x lo hi none) (hx:okO x=true) (hv:s.ev x=.slice (some ⟨n,k,none⟩) len z)
    (hn : (s.H.get n).isSome) (hu:P.underlying t=some (.slice e)) (hs:szT P e=some z) (hl:bnd s lo 0 l) (hh:bnd s hi len h) (h1:l ≤ h) (h2:h ≤ len) :
    OpV P o s (.slice (some ⟨n,k + l * z,none⟩) (h - l) z) s.H:=by
  refine opv_pure (by simp [ho]) fun φ w a' hr ha => ?_
  have hvr:=ha.ev hx hv (by simp [undef])
  have hd:=hr.dom n hn
  have main : ∀ (b:Addr) (r:Nat),a'.eval x=.slice (some b) len r→len ≤ r→
      (execOp a'.eval o).run P w=.ok (.value (.slice (if r=l then some b else some (b.add (l * z))) (h - l) (r - l))) w:=fun b r e hr => by
    have hb:=sliceBounds_run (P:=P) ha (b:=true) hl hh h1 h2 hr w
    simp only [execOp,ho,Sem.run_bind,Option.map_none,sliceAt_slice hu,e]
    unfold Instr.slice
    simp only [Sem.run_bind,run_underlying hu,Result.andThen_ok,hb,run_szT hs,Sem.run_pure]
    split <;> rfl
  generalize he:a'.eval x=y at *
  cases hvr with
  | oldSlice _ _ _ hlt => simp at hlt; omega
  | empty _ b _ hsc =>
    obtain rfl:h=0:=by omega
    obtain rfl:l=0:=by omega
    exact ⟨_,main b 0 rfl (Nat.le_refl _),.empty _ _ _ hsc⟩
  | slice _ _ _ _ r g1 g2 g3 g4 g5 =>
    refine ⟨_,main _ r rfl g3,?_⟩
    by_cases hrl:r=l
    · have e0:h - l=0:=by omega
      have e1:r - l=0:=by omega
      rw [e0,e1,if_pos hrl]
      exact .empty _ _ _ fun _ => g2
    · simp only [hrl,if_false,add_none]
      have h5:k + l * z + (r - l) * z ≤ (φ n).k:=by
        have:l * z + (r - l) * z=r * z:=by rw [← Nat.add_mul]; congr 1; omega
        omega
      have:=VR.slice (φ:=φ) (B:=s.H.B) (N:=s.H.live) n (k + l * z) (h - l) z (r - l) g1 g2 (by omega) (fun hz' => absurd hz' hz) h5
      rwa [← Nat.add_assoc] at this

theorem opv_slice_old {t e:TypeId} {x:Operand} {lo hi:Option Operand} {n k l h len c z:Nat} (ho:o.op=.slice t x lo hi none) (hx:okO x=true) (hv:s.ev x=.slice (some ⟨n,k,none⟩) len c)
    (hn:n < s.H.B) (hc:len ≤ c) (hu:P.underlying t=some (.slice e)) (hs:szT P e=some z) (hl:bnd s lo 0 l) (hh:bnd s hi len h) (h1:l ≤ h) (h2:h ≤ len) :
    OpV P o s (.slice (some ⟨n,k + l * z,none⟩) (h - l) (c - l)) s.H:=by
  refine opv_pure (by simp [ho]) fun φ w a' hr ha => ?_
  have hvr:=ha.ev hx hv (by simp [undef])
  have main : ∀ (b:Addr) (r:Nat),a'.eval x=.slice (some b) len r→len ≤ r→
      (execOp a'.eval o).run P w=.ok (.value (.slice (if r=l then some b else some (b.add (l * z))) (h - l) (r - l))) w:=fun b r e hr => by
    have hb:=sliceBounds_run (P:=P) ha (b:=true) hl hh h1 h2 hr w
    simp only [execOp,ho,Sem.run_bind,Option.map_none,sliceAt_slice hu,e]
    unfold Instr.slice
    simp only [Sem.run_bind,run_underlying hu,Result.andThen_ok,hb,run_szT hs,Sem.run_pure]
    split <;> rfl
  generalize he:a'.eval x=y at *
  cases hvr with
  | slice _ _ _ _ r g1 g2 g3 g4 g5 => omega
  | empty _ b _ hsc =>
    obtain rfl:h=0:=by omega
    obtain rfl:l=0:=by omega
    exact ⟨_,main b 0 rfl (Nat.le_refl _),.empty _ _ _ fun hB => absurd hn (Nat.not_lt.2 hB)⟩
  | oldSlice _ _ _ hlt =>
    refine ⟨_,main _ c rfl hc,?_⟩
    by_cases hrl:c=l
    · have e0:h - l=0:=by omega
      have e1:c - l=0:=by omega
      rw [e0,e1]
      simp only [hrl,if_true]
      exact .empty _ _ _ fun hB => absurd hn (Nat.not_lt.2 hB)
    · simp only [hrl,if_false,add_none]
      exact .oldSlice _ _ _ hn

theorem opv_slice_nil {t e:TypeId} {x:Operand} {lo hi:Option Operand} {z:Nat} (ho:o.op=.slice t x lo hi none) (hx:okO x=true) (hv:s.ev x=.slice none 0 0)
    (hu:P.underlying t=some (.slice e)) (hs:szT P e=some z) (hl:bnd s lo 0 0) (hh:bnd s hi 0 0):OpV P o s (.slice none 0 0) s.H:=by
  refine opv_pure (by simp [ho]) fun φ w a' hr ha => ?_
  have hvr:=ha.ev hx hv (by simp [undef])
  refine ⟨.slice none 0 0,?_,.nilSlice _ _⟩
  generalize he:a'.eval x=y at *
  cases hvr
  have hb:=sliceBounds_run (P:=P) ha (b:=true) hl hh (Nat.le_refl _) (Nat.le_refl _) (Nat.le_refl _) w
  simp only [execOp,ho,Sem.run_bind,Option.map_none,sliceAt_slice hu,he]
  unfold Instr.slice
  simp only [Sem.run_bind,run_underlying hu,Result.andThen_ok,hb,run_szT hs,Sem.run_pure]
  rfl

theorem opv_slice_array {t e:TypeId} {x:Operand} {lo hi:Option Operand} {n k l h len z:Nat} {c:Array Value} {te:Tag} (ho:o.op=.slice t x lo hi none) (hx:okO x=true) (hv:s.ev x=.pointer (some ⟨n,k,none⟩))
    (hn:s.H.get n=some (.row c te)) (hk:k + len * z ≤ c.size) (hz:z ≠ 0) (hu:P.underlying t=some (.array len e)) (hs:szT P e=some z) (hl:bnd s lo 0 l) (hh:bnd s hi len h) (h1:l ≤ h) (h2:h ≤ len) :
    OpV P o s (.slice (some ⟨n,k + l * z,none⟩) (h - l) z) s.H:=by
  refine opv_pure (by simp [ho]) fun φ w a' hr ha => ?_
  have hvr:=ha.ev hx hv (by simp [undef])
  have hd:=hr.dom n (by simp [hn])
  obtain ⟨b,k',e',hm,hwhere⟩:=hvr.ptr_inv
  obtain ⟨hnB,y,hy,hbr⟩:=hr.own n _ hn
  rcases hwhere with ⟨h1',_⟩ | ⟨h1',h2',rfl,rfl⟩
  · omega
  · have hck:c.size ≤ (φ n).k:=by cases hbr with | row _ _ _ _ _ q _ => exact q
    have hb:=sliceBounds_run (P:=P) ha (b:=false) hl hh h1 h2 (Nat.le_refl _) w
    refine ⟨.slice (some (if len=l then ⟨(φ n).b,(φ n).o + k,none⟩ else (⟨(φ n).b,(φ n).o + k,none⟩ : Addr).add (l * z))) (h - l) (len - l),?_,?_⟩
    · simp only [execOp,ho,Sem.run_bind,Option.map_none,e',Instr.sliceAt,run_underlying hu,Result.andThen_ok,Instr.sureAddr,Sem.run_pure,hb,run_szT hs]
    · by_cases hrl:len=l
      · have e0:h - l=0:=by omega
        have e1:len - l=0:=by omega
        rw [e0,e1]
        exact .empty _ _ _ fun _ => h2'
      · simp only [hrl,if_false,add_none]
        have h5:k + l * z + (len - l) * z ≤ (φ n).k:=by
          have:l * z + (len - l) * z=len * z:=by rw [← Nat.add_mul]; congr 1; omega
          omega
        have:=VR.slice (φ:=φ) (B:=s.H.B) (N:=s.H.live) n (k + l * z) (h - l) z (len - l) h1' h2' (by omega) (fun hz' => absurd hz' hz) h5
        rwa [← Nat.add_assoc] at this
end
end Go.Proofs.Orl

namespace Go.Proofs.Orl
open Go

def Src (P:Program) (s:St) (x:Value) (z m:Nat) (xs:Array Value):Prop :=
  xs.size=m * z∧∀ (φ:Ph) (w:World) (x' : Value),Rel φ s.H w→VR s.H.B s.H.live φ x x'→
    ∃ xs',(∀ w',w'.heap=w.heap→(Builtin.lenOf x').run P w' = .ok m w'∧(Builtin.firstCells z m x').run P w' = .ok xs' w')∧AR s.H.B s.H.live φ xs xs'

section
variable {P:Program} {o:Oper} {s:St}

theorem loadCells_run {w:World} {g k n:Nat} {c:Array Value} {e:TypeId} {fr:Nat × Nat} (hg:w.heap[g]? = some (.cells c e fr)) (hk:k + n ≤ c.size) :
    (loadCells ⟨g,k,none⟩ n).run P w=.ok (c.extract k (k + n)) w:=by
  have hl:=run_loadCells_list (P:=P) w ⟨g,k,none⟩ ((c.extract k (k + n)).toList) fun j v hj => by
    rw [add_none]
    simp only [Array.getElem?_toList,Array.getElem?_extract] at hj
    split at hj
    · simp [World.cell?,hg,hj]
    · cases hj
  have hlen : ((c.extract k (k + n)).toList).length=n:=by simp; omega
  rwa [hlen,Array.toArray_toList] at hl

theorem own_extract {φ:Ph} {H:SH} {w:World} (hr:Rel φ H w) {n k m:Nat} {c:Array Value} {e:Tag} (hn:H.get n=some (.row c e)) (hk:k + m ≤ c.size) :
    ∃ c' e',w.heap[(φ n).b]? = some (.cells c' e' (0,0))∧c'.size=(φ n).o + (φ n).k∧c.size ≤ (φ n).k∧AR H.B H.live φ (c.extract k (k + m)) (c'.extract ((φ n).o + k) ((φ n).o + k + m)):=by
  obtain ⟨hnB,y,hy,hbr⟩:=hr.own n _ hn
  cases hbr with
  | row _ c' _ t' hc1 hc2 hc3 =>
    refine ⟨c',t',hy,hc1,hc2,.of_get? (by simp; omega) fun i v v' hv1 hv2 => ?_⟩
    simp only [Array.getElem?_extract] at hv1 hv2
    split at hv1 <;> split at hv2 <;> first | cases hv1; done | cases hv2; done | skip
    have:=hc3 (k + i) (by omega)
    have e1:c.getD (k + i) undef=v:=getD_of_get? hv1
    have e2:c'.getD ((φ n).o + (k + i)) undef=v':=by
      rw [← Nat.add_assoc]; exact getD_of_get? hv2
    rwa [e1,e2] at this

theorem src_own {n k l c z:Nat} {cs:Array Value} {e:Tag} (hl:0 < l) (hn:s.H.get n=some (.row cs e)) (hk:k + l * z ≤ cs.size) :
    Src P s (.slice (some ⟨n,k,none⟩) l c) z l (cs.extract k (k + l * z)):=by
  refine ⟨by simp; omega,fun φ w x' hr hv => ?_⟩
  have hd:=hr.dom n (by simp [hn])
  obtain ⟨c',e',hy,h1,h2,har⟩:=own_extract hr hn hk
  cases hv with
  | oldSlice _ _ _ h => simp at h; omega
  | empty => omega
  | slice _ _ _ _ r g1 g2 g3 g4 g5 =>
    refine ⟨_,fun w' hw => ⟨by simp [Builtin.lenOf],?_⟩,har⟩
    simp only [Builtin.firstCells]
    exact loadCells_run (by rw [hw]; exact hy) (by omega)

theorem src_zero {a:Option Addr} {c z:Nat} : Src P s (.slice a 0 c) z 0 #[]:=by
  refine ⟨by simp,fun φ w x' hr hv => ?_⟩
  obtain ⟨a',c',rfl,_⟩:=hv.slice_len
  refine ⟨#[],fun w' hw => ⟨by simp [Builtin.lenOf],?_⟩,.nil⟩
  cases a' <;> simp [Builtin.firstCells,loadCells,loadCellsFrom]

theorem growBy_le (n:Nat) : ∀ (r c:Nat),c ≤ n→Builtin.growBy n r c ≤ (match r with | 0 => n | 1 => 2 * n + 192 | 2 => 2 * n + 432 | 3 => 2 * n + 732 | 4 => 3 * n + 1107 | r => Builtin.growBy n r c):=by
  intro r c hc
  match r with
  | 0 => simpa [Builtin.growBy] using hc
  | 1 => simp only [Builtin.growBy]; split <;> omega
  | 2 => simp only [Builtin.growBy]; (repeat' split) <;> omega
  | 3 => simp only [Builtin.growBy]; (repeat' split) <;> omega
  | 4 => simp only [Builtin.growBy]; (repeat' split) <;> omega
  | r + 5 => exact Nat.le_refl _

theorem next_le {n c:Nat} (h:c < n):Builtin.nextslicecap n c ≤ 3 * n + 1107:=by
  unfold Builtin.nextslicecap
  split
  · omega
  · split
    · omega
    · have:=growBy_le n 4 c (by omega)
      simpa using this

theorem append_exec {x y:Operand} {t u:TypeId} (ho:o.op=.call { callee:=.builtin .append,args:=#[x,y],argTypes:=#[t,u] }) (ρ:Operand→Value) :
    execOp ρ o=(do pure (.value (← Builtin.append_ #[t,u] o.type #[ρ x,ρ y]))):=by
  obtain ⟨cs,h⟩:=builtin_exec ho ρ
  rw [h]
  simp [builtin]

def notInt:TypeDesc→Bool
  | .int _ => false
  | _ => true

theorem append_room {t u e:TypeId} {ty:TypeId} {z m l r:Nat} {b:Option Addr} {y:Value} {du:TypeDesc} {xs:Array Value} (ht:P.underlying t=some (.slice e)) (hu:P.underlying u=some du) (hi:notInt du=true) (hs:szT P e=some z) (w:World)
    (hlen : (Builtin.lenOf y).run P w=.ok m w) (hcells : (Builtin.firstCells z m y).run P w=.ok xs w) (hroom:l + m ≤ r) :
    (Builtin.append_ #[t,u] ty #[.slice b l r,y]).run P w =
      ((match b with | some a => storeCells (a.add (l * z)) xs.toList | none => pure ():Sem Unit).run P w).andThen fun _ w' => .ok (.slice b (l + m) r) w':=by
  unfold Builtin.append_
  simp only [Sem.run_bind,run_underlying ht,run_underlying hu,Result.andThen_ok,run_szT hs,Sem.run_pure,List.getElem?_toArray,List.getElem?_cons_zero,List.getElem?_cons_succ]
  cases du <;> first | (exfalso; simp [notInt] at hi; done) | skip
  all_goals
    simp only [Bool.false_eq_true,if_false,Sem.run_bind,hlen,Result.andThen_ok,hroom,if_true,Bool.not_false,hcells]
    cases b with
    | none => simp
    | some a => simp

theorem append_grow {t u e:TypeId} {ty:TypeId} {z m l r:Nat} {b:Option Addr} {y:Value} {du:TypeDesc} {xs old:Array Value} {zv:Value} {ti:TypeInfo} (ht:P.underlying t=some (.slice e)) (hu:P.underlying u=some du) (hi:notInt du=true) (hs:szT P e=some z)
    (hti:P.info? e=some ti) (hzv:zeroT P e=some zv) (w:World)
    (hlen : (Builtin.lenOf y).run P w=.ok m w) (hroom : ¬ l + m ≤ r) (hsmall : (3 * (l + m) + 1107) * ti.bytes ≤ 2 ^ 48) (hpos:0 < ti.bytes)
    (hcells : ∀ w',w'.heap=w.heap→(Builtin.firstCells z m y).run P w' = .ok xs w') (hold : ∀ w',w'.heap=w.heap→(Builtin.firstCells z l (.slice b l r)).run P w' = .ok old w') :
    ∃ (n:Nat) (w1:World),l + m ≤ n∧w1.heap=w.heap∧w1.output=w.output∧w1.os=w.os∧
      (Builtin.append_ #[t,u] ty #[.slice b l r,y]).run P w=.ok (.slice (some ⟨w.heap.size,0,none⟩) (l + m) n) (w1.alloc (.cells (old++xs++Builtin.zeroCells zv.cells (n - (l + m))) e)):=by
  have hnext:=next_le (n:=l + m) (c:=r) (by omega)
  have hle : ¬ Builtin.nextslicecap (l + m) r * ti.bytes > 2 ^ 48:=by
    have:=Nat.mul_le_mul_right ti.bytes hnext
    omega
  have hneed : ¬ (((l + m:Nat):Int) > IntKind.i64.max∧(False∨ti.bytes=0)):=by rintro ⟨_,h | h⟩ <;> first | cases h; done | omega
  have hq : (Question.appendCap (l + m) r e).forced=false:=rfl
  refine ⟨(Question.appendCap (l + m) r e).cut (w.tape w.drawn (.appendCap (l + m) r e)),{ w with drawn:=w.drawn + 1 },by simp [Question.cut],rfl,rfl,rfl,?_⟩
  unfold Builtin.append_
  simp only [Sem.run_bind,run_underlying ht,run_underlying hu,Result.andThen_ok,run_szT hs,Sem.run_pure,List.getElem?_toArray,List.getElem?_cons_zero,List.getElem?_cons_succ]
  have hinfo : (typeInfo e).run P w=.ok ti w:=by simp [typeInfo,hti]
  have hinfo' : (typeInfo e).run P { w with drawn:=w.drawn + 1 } = .ok ti { w with drawn:=w.drawn + 1 }:=by simp [typeInfo,hti]
  cases du <;> first | (exfalso; simp [notInt] at hi; done) | skip
  all_goals
    simp only [Bool.false_eq_true,if_false,Sem.run_bind,hlen,Result.andThen_ok,hroom,Bool.not_false,if_true]
    simp only [hinfo,Result.andThen_ok]
    rw [if_neg hneed]
    simp only [Sem.run_bind,hinfo,Result.andThen_ok,if_neg hle,run_choose,hq,Bool.false_eq_true,if_false]
    simp only [hinfo',Result.andThen_ok,run_askRoom,hold { w with drawn:=w.drawn + 1 } rfl,hcells { w with drawn:=w.drawn + 1 } rfl,run_zeroT hzv,Sem.run_pure,newRow,Sem.run_bind,run_newObj_alloc]
end
end Go.Proofs.Orl

namespace Go.Proofs.Orl
open Go

theorem Rel.congr {φ:Ph} {H:SH} {w w' : World} (hr:Rel φ H w) (h:w'.heap=w.heap):Rel φ H w' :=
  ⟨fun b hb => by rw [h]; exact hr.old b hb,hr.base,by rw [h]; exact hr.size,hr.dom,hr.lt,fun n x hx => by rw [h]; exact hr.own n x hx,hr.inj⟩

theorem Ext.congr (φ:Ph) (H:SH) {w w' : World} (h:w'.heap=w.heap) (ho:w'.output=w.output) (hs:w'.os=w.os):Ext φ φ H H w w' :=
  ⟨fun _ _ => rfl,Nat.le_refl _,fun _ h => h,rfl,by rw [h]; exact Nat.le_refl _,fun b _ _ => by rw [h],fun n hn => .inr ⟨n,hn,rfl⟩,ho,hs⟩

theorem rel_move {φ:Ph} {H:SH} {w w' : World} (hr:Rel φ H w) {n:Nat} {z x:SBlk} {y:Obj} (hz:H.get n=some z) (p:Pl) (hp:p.b=(φ n).b) (hy:w'.heap[(φ n).b]? = some y)
    (hx:BR H.B H.live φ p x y) (hother : ∀ b,b ≠ (φ n).b→w'.heap[b]? = w.heap[b]?) (hsize:w'.heap.size=w.heap.size) (ho:w'.output=w.output) (hos:w'.os=w.os) :
    ∃ φ',φ' H.next=p∧Rel φ' ((H.put n none).new x) w'∧Ext φ φ' H ((H.put n none).new x) w w':=by
  have hnb:=hr.own n z hz
  have hnd:=hr.dom n (by simp [hz])
  have hget : ∀ m u,((H.put n none).new x).get m=some u→(m=H.next∧u=x)∨(m ≠ H.next∧m ≠ n∧H.get m=some u):=fun m u hu => by
    rw [SH.get_new] at hu
    by_cases e:m=H.next
    · simp [e] at hu; exact .inl ⟨e,hu.symm⟩
    · simp only [SH.next_put,e,if_false,SH.get_put] at hu
      by_cases e2:m=n
      · simp [e2] at hu
      · simp only [e2,if_false] at hu; exact .inr ⟨e,e2,hu⟩
  have hsame : ∀ m,H.live m→(fun m => if m=H.next then p else φ m) m=φ m:=fun m hm => by simp [Nat.ne_of_lt (hr.lt m hm)]
  refine ⟨fun m => if m=H.next then p else φ m,by simp,⟨fun b hb => ?_,by have:=hr.base; simp; omega,by rw [hsize]; exact hr.size,fun m hm => ?_,fun m hm => ?_,fun m u hu => ?_,fun a b ha hb e => ?_⟩,?_⟩
  · have hlt:b < H.B:=hb
    rw [hother b (by have:=hnb.1; omega)]
    exact hr.old b hb
  · obtain ⟨u,hu⟩:=Option.isSome_iff_exists.1 hm
    have hbase:=hr.base
    rcases hget m u hu with ⟨rfl,_⟩ | ⟨_,_,hg⟩
    · exact ⟨hbase,.inr rfl⟩
    · have:=hr.dom m (by simp [hg])
      exact ⟨this.1,.inl this.2⟩
  · rcases hm with hm | hm
    · have:=hr.lt m hm; simp; omega
    · simp only [SH.next_put] at hm; simp; omega
  · rcases hget m u hu with ⟨rfl,rfl⟩ | ⟨h1,h2,hg⟩
    · simp only [if_true]
      refine ⟨by rw [hp]; exact hnb.1,y,by rw [hp]; exact hy,?_⟩
      exact hx.mono (fun _ h => .inl h) hsame
    · simp only [h1,if_false]
      obtain ⟨g1,y',hy',hbr⟩:=hr.own m u hg
      refine ⟨g1,y',?_,hbr.mono (fun _ h => .inl h) hsame⟩
      rw [hother _ fun e => h2 (hr.inj m n (by simp [hg]) (by simp [hz]) e)]
      exact hy'
  · obtain ⟨u,hu⟩:=Option.isSome_iff_exists.1 ha
    obtain ⟨v,hv⟩:=Option.isSome_iff_exists.1 hb
    rcases hget a u hu with ⟨rfl,_⟩ | ⟨h1,h2,hg⟩ <;> rcases hget b v hv with ⟨rfl,_⟩ | ⟨k1,k2,kg⟩
    · rfl
    · simp only [if_true,k1,if_false,hp] at e
      exact absurd (hr.inj n b (by simp [hz]) (by simp [kg]) e).symm k2
    · simp only [if_true,h1,if_false,hp] at e
      exact absurd (hr.inj a n (by simp [hg]) (by simp [hz]) e) h2
    · simp only [h1,k1,if_false] at e
      exact hr.inj a b (by simp [hg]) (by simp [kg]) e
  · refine ⟨hsame,by simp,fun _ h => .inl h,rfl,by rw [hsize]; exact Nat.le_refl _,fun b _ hn => hother b fun e => hn n (by simp [hz]) e.symm,fun m hm => .inr ?_,ho,hos⟩
    obtain ⟨u,hu⟩:=Option.isSome_iff_exists.1 hm
    rcases hget m u hu with ⟨rfl,_⟩ | ⟨h1,h2,hg⟩
    · exact ⟨n,by simp [hz],by simp [hp]⟩
    · exact ⟨m,by simp [hg],by simp [h1]⟩

section
variable {P:Program} {o:Oper} {s:St}

theorem opv_append0 {t u e:TypeId} {x y:Operand} {a:Option Addr} {l c z:Nat} {xs:Array Value} {yv:Value} {du:TypeDesc} (ho:o.op=.call { callee:=.builtin .append,args:=#[x,y],argTypes:=#[t,u] })
    (hx:okO x=true) (hy:okO y=true) (hv:s.ev x=.slice a l c) (hyv:s.ev y=yv) (hyn:yv ≠ undef) (hsrc:Src P s yv z 0 xs)
    (hle:l ≤ c∨∃ n k,a=some ⟨n,k,none⟩∧(s.H.get n).isSome) (ht:P.underlying t=some (.slice e)) (hu:P.underlying u=some du) (hi:notInt du=true) (hs:szT P e=some z) :
    OpV P o s (.slice a l c) s.H:=by
  refine opv_pure (by simp [ho]) fun φ w a' hr ha => ?_
  have hvr:=ha.ev hx hv (by simp [undef])
  obtain ⟨xs',h12,h3⟩:=hsrc.2 φ w _ hr (ha.ev hy hyv hyn)
  obtain ⟨h1,h2⟩:=h12 w rfl
  have hx0:xs' = #[]:=by
    apply Array.eq_empty_of_size_eq_zero
    have:=hsrc.1; have:=h3.1; omega
  subst hx0
  have hb : ∃ b r,a'.eval x=.slice b l r∧l ≤ r:=by
    generalize a'.eval x=v at *
    cases hvr with
    | nilSlice _ _ =>
      rcases hle with h | ⟨n,k,h,_⟩
      · exact ⟨_,_,rfl,h⟩
      · cases h
    | oldSlice b _ _ hlt =>
      rcases hle with h | ⟨n,k,h,hn⟩
      · exact ⟨_,_,rfl,h⟩
      · cases h; have:=hr.dom n hn; simp at hlt; omega
    | slice _ _ _ _ r _ _ g3 _ _ => exact ⟨_,_,rfl,g3⟩
    | empty _ b _ _ => exact ⟨_,_,rfl,Nat.le_refl _⟩
  obtain ⟨b,r,he,hr'⟩:=hb
  have:=append_room (P:=P) (ty:=o.type) (b:=b) (l:=l) (r:=r) ht hu hi hs w h1 h2 (by simpa using hr')
  refine ⟨.slice b l r,?_,by rw [← he]; exact hvr⟩
  rw [append_exec ho,he]
  simp only [Sem.run_bind,this]
  cases b <;> simp [storeCells]

theorem zeroCells_size (zs:Array Value) (n:Nat) : (Builtin.zeroCells zs n).size=n * zs.size:=by simp [Builtin.zeroCells]

theorem opv_append_new {t u e:TypeId} {x y:Operand} {a:Option Addr} {m z:Nat} {xs:Array Value} {yv:Value} {du:TypeDesc} {ti:TypeInfo} {zv:Value} (ho:o.op=.call { callee:=.builtin .append,args:=#[x,y],argTypes:=#[t,u] })
    (hx:okO x=true) (hy:okO y=true) (hv:s.ev x=.slice a 0 0) (hyv:s.ev y=yv) (hyn:yv ≠ undef) (hsrc:Src P s yv z m xs) (hm:0 < m) (hz:z ≠ 0)
    (ht:P.underlying t=some (.slice e)) (hu:P.underlying u=some du) (hi:notInt du=true) (hs:szT P e=some z) (hti:P.info? e=some ti) (hzv:zeroT P e=some zv) (hzs:zv.cells.size=z)
    (hsmall : (3 * m + 1107) * ti.bytes ≤ 2 ^ 48) (hpos:0 < ti.bytes) :
    OpV P o s (.slice (some ⟨s.H.next,0,none⟩) m z) (s.H.new (.row xs .raw)):=by
  refine ⟨by simp [ho],fun φ w a' hr ha => ?_⟩
  have hvr:=ha.ev hx hv (by simp [undef])
  obtain ⟨xs',h12,h3⟩:=hsrc.2 φ w _ hr (ha.ev hy hyv hyn)
  have hb : ∃ b,a'.eval x=.slice b 0 0:=by
    generalize a'.eval x=v at *
    cases hvr with
    | nilSlice _ _ => exact ⟨_,rfl⟩
    | oldSlice b _ _ hlt => exact ⟨_,rfl⟩
    | slice _ _ _ _ r _ _ g3 g4 _ => obtain rfl:=g4 rfl; exact ⟨_,rfl⟩
    | empty _ b _ _ => exact ⟨_,rfl⟩
  obtain ⟨b,he⟩:=hb
  obtain ⟨n,w1,hn,hh,hout,hos,hrun⟩:=append_grow (P:=P) (ty:=o.type) (b:=b) (l:=0) (r:=0) (old:=#[]) ht hu hi hs hti hzv w (h12 w rfl).1 (by omega) (by simpa using hsmall) hpos (fun w' hw => (h12 w' hw).2) (fun w' _ => by
    cases b <;> simp [Builtin.firstCells,loadCells,loadCellsFrom])
  have hr1:=hr.congr hh
  simp only [Nat.zero_add,Array.empty_append] at hrun hn
  have hxz:=hsrc.1
  have hys:=h3.1
  have hsize : (xs'++Builtin.zeroCells zv.cells (n - m)).size=n * z:=by
    rw [Array.size_append,zeroCells_size,hzs,← hys,hxz,← Nat.add_mul]; congr 1; omega
  obtain ⟨φ',hφ,hrel',hext⟩:=rel_new hr1 (.row xs .raw) (.cells (xs'++Builtin.zeroCells zv.cells (n - m)) e) (n * z) (.row _ _ _ _ (by simp [hsize]) (by rw [hxz]; exact Nat.mul_le_mul_right _ hn) fun i hi => by
    have hi' : i < xs'.size:=hys ▸ hi
    have:=h3.2 i hi
    simpa [Array.getD_eq_getD_getElem?,Array.getElem?_append,hi'] using this)
  refine ⟨φ',w1.alloc (.cells (xs'++Builtin.zeroCells zv.cells (n - m)) e),.slice (some ⟨w.heap.size,0,none⟩) m n,.inl ?_,.inr ?_,hrel',(Ext.congr φ s.H hh hout hos).trans hext⟩
  · rw [append_exec ho,he]
    simp only [Sem.run_bind,hrun,Result.andThen_ok,Sem.run_pure]
  · have:=VR.slice (B:=s.H.B) (N:=(s.H.new default).live) (φ:=φ') s.H.next 0 m z n hr.base (.inr rfl) hn (fun hz' => absurd hz' hz) (by rw [hφ]; simp)
    rw [hφ] at this
    simpa [hh] using this

theorem opv_append_own {t u e:TypeId} {x y:Operand} {n k l m z:Nat} {c xs:Array Value} {yv:Value} {te:Tag} {du:TypeDesc} {ti:TypeInfo} {zv:Value} (ho:o.op=.call { callee:=.builtin .append,args:=#[x,y],argTypes:=#[t,u] })
    (hx:okO x=true) (hy:okO y=true) (hv:s.ev x=.slice (some ⟨n,k,none⟩) l z) (hn:s.H.get n=some (.row c te)) (hk:k + l * z ≤ c.size)
    (hyv:s.ev y=yv) (hyn:yv ≠ undef) (hsrc:Src P s yv z m xs) (hm:0 < m) (hz:z ≠ 0) (hleaf:xs.toList.all (·.oneCell') = true)
    (ht:P.underlying t=some (.slice e)) (hu:P.underlying u=some du) (hi:notInt du=true) (hs:szT P e=some z) (hti:P.info? e=some ti) (hzv:zeroT P e=some zv) (hzs:zv.cells.size=z)
    (hsmall : (3 * (l + m) + 1107) * ti.bytes ≤ 2 ^ 48) (hpos:0 < ti.bytes) :
    OpV P o s (.slice (some ⟨s.H.next,0,none⟩) (l + m) z) ((s.H.put n none).new (.row (c.extract k (k + l * z)++xs) .raw)):=by
  refine ⟨by simp [ho],fun φ w a' hr ha => ?_⟩
  have hvr:=ha.ev hx hv (by simp [undef])
  have hd:=hr.dom n (by simp [hn])
  obtain ⟨xs',h12,h3⟩:=hsrc.2 φ w _ hr (ha.ev hy hyv hyn)
  obtain ⟨c',te',hyb,hc1,hc2,har⟩:=own_extract hr hn hk
  have hxz:=hsrc.1
  have hys:=h3.1
  have hall:=AR.append har h3
  have hcs : (c.extract k (k + l * z)++xs).size=(l + m) * z:=by simp [hxz,Nat.add_mul]; omega
  have grow : ∀ (b:Option Addr) (r:Nat) (old:Array Value),a'.eval x=.slice b l r→¬ l + m ≤ r→(∀ w',w'.heap=w.heap→(Builtin.firstCells z l (.slice b l r)).run P w' = .ok old w')→
      AR s.H.B s.H.live φ (c.extract k (k + l * z)) old→
      ∃ φ' w' v',((execOp a'.eval o).run P w=.ok (.value v') w'∨((execOp a'.eval o).run P w=.ok .skip w'∧v' = undef))∧
        (Value.slice (some ⟨s.H.next,0,none⟩) (l + m) z=undef∨VR ((s.H.put n none).new (.row (c.extract k (k + l * z)++xs) .raw)).B ((s.H.put n none).new (.row (c.extract k (k + l * z)++xs) .raw)).live φ' (.slice (some ⟨s.H.next,0,none⟩) (l + m) z) v')∧
        Rel φ' ((s.H.put n none).new (.row (c.extract k (k + l * z)++xs) .raw)) w'∧Ext φ φ' s.H ((s.H.put n none).new (.row (c.extract k (k + l * z)++xs) .raw)) w w':=by
    intro b r old he hroom hold hro
    obtain ⟨q,w1,hq,hh,hout,hos,hrun⟩:=append_grow (P:=P) (ty:=o.type) (b:=b) (l:=l) (r:=r) (old:=old) ht hu hi hs hti hzv w (h12 w rfl).1 hroom hsmall hpos (fun w' hw => (h12 w' hw).2) hold
    have hr1:=(hr.congr hh).drop n
    have hall':=AR.append hro h3
    have hsize : (old++xs'++Builtin.zeroCells zv.cells (q - (l + m))).size=q * z:=by
      rw [Array.size_append,← hall'.1,hcs,zeroCells_size,hzs,← Nat.add_mul]; congr 1; omega
    obtain ⟨φ',hφ,hrel',hext⟩:=rel_new hr1 (.row (c.extract k (k + l * z)++xs) .raw) (.cells (old++xs'++Builtin.zeroCells zv.cells (q - (l + m))) e) (q * z)
      (.row _ _ _ _ (by simpa using hsize) (by rw [hcs]; exact Nat.mul_le_mul_right _ hq) fun i hi' => by
        have hi2:i < (old++xs').size:=hall'.1 ▸ hi'
        have:=hall'.2 i hi'
        simp only [Array.getD_eq_getD_getElem?,Nat.zero_add] at this ⊢
        rwa [Array.getElem?_append_left hi2])
    refine ⟨φ',w1.alloc (.cells (old++xs'++Builtin.zeroCells zv.cells (q - (l + m))) e),.slice (some ⟨w.heap.size,0,none⟩) (l + m) q,.inl ?_,.inr ?_,hrel',((Ext.congr φ s.H hh hout hos).trans (Ext.drop φ s.H w1 n)).trans hext⟩
    · rw [append_exec ho,he]
      simp only [Sem.run_bind,hrun,Result.andThen_ok,Sem.run_pure]
    · have:=VR.slice (B:=s.H.B) (N:=(s.H.new default).live) (φ:=φ') s.H.next 0 (l + m) z q hr.base (.inr rfl) hq (fun hz' => absurd hz' hz) (by rw [show φ' s.H.next=_ from hφ]; simp)
      rw [show φ' s.H.next=_ from hφ] at this
      simpa [hh] using this
  generalize he:a'.eval x=v at hvr
  cases hvr with
  | oldSlice _ _ _ hlt => simp at hlt; omega
  | empty _ b _ _ =>
    exact grow (some b) 0 #[] he (by omega) (fun w' _ => by simp [Builtin.firstCells,loadCells,loadCellsFrom]) ⟨by simp; omega,fun i hi => by simp at hi; omega⟩
  | slice _ _ _ _ r g1 g2 g3 g4 g5 =>
    have hfit:k + l * z ≤ (φ n).k:=by
      have:=Nat.mul_le_mul_right z g3
      omega
    by_cases hroom:l + m ≤ r
    · have hfit2:k + (l + m) * z ≤ (φ n).k:=by
        have:=Nat.mul_le_mul_right z hroom
        omega
      have hlm : (l + m) * z=l * z + m * z:=Nat.add_mul _ _ _
      have hrun:=append_room (P:=P) (ty:=o.type) (b:=some ⟨(φ n).b,(φ n).o + k,none⟩) (l:=l) (r:=r) ht hu hi hs w (h12 w rfl).1 (h12 w rfl).2 hroom
      have hallc : ∀ v ∈ xs'.toList,v.oneCell' = true:=fun v hv1 => by
        obtain ⟨i,hi⟩:=List.mem_iff_getElem?.1 hv1
        have hi' : xs'[i]? = some v:=by simpa using hi
        have hlt:i < xs.size:=by rw [hys]; exact (Array.getElem?_eq_some_iff.1 hi').1
        obtain ⟨v',hv',hrv⟩:=h3.get? (i:=i) (v:=xs[i]) (by simp [hlt])
        rw [hi'] at hv'; cases hv'
        rw [oneCell_rel hrv]
        rw [List.all_eq_true] at hleaf
        exact hleaf _ (Array.mem_toList_iff.2 (Array.getElem_mem hlt))
      have hst:=run_storeCells_at (P:=P) (φ n).b ((φ n).o + k + l * z) te' xs'.toList 0 c' w hyb (by simp; omega) hallc
      have hrow : (c'.toList.take ((φ n).o + k + l * z + 0)++xs'.toList++c'.toList.drop ((φ n).o + k + l * z + 0 + xs'.toList.length)).toArray=stC c' ((φ n).o + k + l * z) xs':=by simp [stC]
      rw [hrow] at hst
      simp only [add_none,hst,Result.andThen_ok] at hrun
      have hcsz : (stC c' ((φ n).o + k + l * z) xs').size=c'.size:=stC_size (by omega)
      obtain ⟨φ',hφ,hrel',hext⟩:=rel_move hr (w':=w.setRow (φ n).b (stC c' ((φ n).o + k + l * z) xs')) (x:=.row (c.extract k (k + l * z)++xs) .raw) (y:=.cells (stC c' ((φ n).o + k + l * z) xs') te' (0,0)) hn
        ⟨(φ n).b,(φ n).o + k,(φ n).k - k⟩ rfl (setRow_heap w _ _ _ _ _ hyb)
        (.row _ _ _ _ (by rw [hcsz]; simp; omega) (by rw [hcs]; simp; omega) fun i hi' => by
          rw [hcs] at hi'
          have g:=stC_get (c:=c') (vs:=xs') (k:=(φ n).o + k + l * z) (i:=(φ n).o + k + i) (by omega)
          by_cases hil:i < l * z
          · rw [if_neg (by omega)] at g
            have h0:=hall.2 i (by rw [hcs]; omega)
            have e1 : (c'.extract ((φ n).o + k) ((φ n).o + k + l * z)++xs').getD i undef=c'.getD ((φ n).o + k + i) undef:=by
              simp only [Array.getD_eq_getD_getElem?]
              rw [Array.getElem?_append_left (by simp; omega),Array.getElem?_extract]
              rw [if_pos (by omega)]
            rw [e1] at h0
            simpa [Array.getD_eq_getD_getElem?,g] using h0
          · rw [if_pos (by omega)] at g
            have h0:=hall.2 i (by rw [hcs]; omega)
            have e1 : (c'.extract ((φ n).o + k) ((φ n).o + k + l * z)++xs').getD i undef=xs'.getD (i - l * z) undef:=by
              simp only [Array.getD_eq_getD_getElem?]
              rw [Array.getElem?_append_right (by simp; omega)]
              congr 2; simp; omega
            rw [e1] at h0
            have e2 : (φ n).o + k + i - ((φ n).o + k + l * z) = i - l * z:=by omega
            rw [e2] at g
            simpa [Array.getD_eq_getD_getElem?,g] using h0)
        (fun b hb => by simp [World.setRow,Array.getElem?_modify,Ne.symm hb]) (by simp [World.setRow]) rfl rfl
      refine ⟨φ',_,.slice (some ⟨(φ n).b,(φ n).o + k,none⟩) (l + m) r,.inl ?_,.inr ?_,hrel',hext⟩
      · rw [append_exec ho,he]
        simp only [Sem.run_bind,hrun,Result.andThen_ok,Sem.run_pure]
      · have hcap:r * z ≤ (φ n).k - k:=by omega
        have:=VR.slice (B:=s.H.B) (N:=(s.H.new default).live) (φ:=φ') s.H.next 0 (l + m) z r hr.base (.inr rfl) hroom (fun hz' => absurd hz' hz) (by rw [show φ' s.H.next=_ from hφ]; simpa using hcap)
        rw [show φ' s.H.next=_ from hφ] at this
        simpa using this
    · refine grow (some _) r _ he hroom (fun w' hw => ?_) har
      simp only [Builtin.firstCells]
      exact loadCells_run (by rw [hw]; exact hyb) (by omega)

def zerosC (zs:Array Value) (n:Nat):Array Value:=(Array.range n).map (zs[· % zs.size]!)

theorem opv_makeSlice {t e:TypeId} {x y:Operand} {l c:Int} {kl kc:IntKind} {z:Nat} {zv:Value} {ti:TypeInfo} (ho:o.op=.makeSlice t x y) (hx:okO x=true) (hy:okO y=true)
    (hxv:s.ev x=.int kl l) (hyv:s.ev y=.int kc c) (h0:0 ≤ l) (hlc:l ≤ c) (hu:P.underlying t=some (.slice e)) (hti:P.info? e=some ti) (hs:szT P e=some z) (hzv:zeroT P e=some zv) (hrig:rigid 6 zv=true)
    (hzs:zv.cells.size=z) (hz:z ≠ 0) (hsmall:ti.bytes * c ≤ 2 ^ 48) (hc:c < 2 ^ 63) :
    OpV P o s (.slice (some ⟨s.H.next,0,none⟩) l.toNat z) (s.H.new (.row (zerosC zv.cells (c.toNat * z)) .raw)):=by
  refine ⟨by simp [ho],fun φ w a' hr ha => ?_⟩
  have e1:=ha.ev hx hxv (by simp [undef])
  have e2:=ha.ev hy hyv (by simp [undef])
  have w1:IntKind.i64.wrap l=l:=by unfold IntKind.wrap; simp [IntKind.bits,IntKind.signed]; omega
  have w2:IntKind.i64.wrap c=c:=by unfold IntKind.wrap; simp [IntKind.bits,IntKind.signed]; omega
  have hzr:AR s.H.B s.H.live φ zv.cells zv.cells:=(rigid.vr 6 zv hrig).cells
  have hcell:AR s.H.B s.H.live φ (zerosC zv.cells (c.toNat * z)) (zerosC zv.cells (c.toNat * z)):=by
    refine .of_get? rfl fun i v v' hv hv' => ?_
    rw [hv] at hv'; cases hv'
    simp only [zerosC,Array.getElem?_map,Option.map_eq_some_iff] at hv
    obtain ⟨j,hj,rfl⟩:=hv
    have hlt:=Nat.mod_lt j (show 0 < zv.cells.size by omega)
    have:=hzr.2 (j % zv.cells.size) hlt
    simpa [Array.getD,hlt,getElem!_pos,hlt] using this
  have hsz : (zerosC zv.cells (c.toNat * z)).size=c.toNat * z:=by simp [zerosC]
  obtain ⟨φ',hφ,hrel',hext⟩:=rel_new hr (.row (zerosC zv.cells (c.toNat * z)) .raw) (.cells (zerosC zv.cells (c.toNat * z)) e) (c.toNat * z) (.row _ _ _ _ (by simp [hsz]) (by rw [hsz]; exact Nat.le_refl _) fun i hi => by simpa using hcell.2 i hi)
  refine ⟨φ',w.alloc (.cells (zerosC zv.cells (c.toNat * z)) e),.slice (some ⟨w.heap.size,0,none⟩) l.toNat c.toNat,.inl ?_,.inr ?_,hrel',hext⟩
  · have hinfo : ∀ w,(typeInfo e).run P w=.ok ti w:=fun w => by simp [typeInfo,hti]
    have hrun : (Instr.makeSlice t (.int kl l) (.int kc c)).run P w=.ok (.slice (some ⟨w.heap.size,0,none⟩) l.toNat c.toNat) (w.alloc (.cells (zerosC zv.cells (c.toNat * z)) e)):=by
      unfold Instr.makeSlice
      simp only [Sem.run_bind,run_underlying hu,Result.andThen_ok,asInt,asIntOf,Sem.run_pure,hinfo,w1,w2]
      rw [if_neg (by simp; omega)]
      simp only [run_askRoom,Result.andThen_ok,run_szT hs,Sem.run_bind]
      by_cases h:c.toNat * z=0
      · simp [h,newRow,zerosC]
        congr 2
        apply Array.ext
        · simp
        · intro i h1 h2; simp at h1
      · simp [h,run_zeroT hzv,newRow,zerosC]
    simp [execOp,ho,e1.int_inv,e2.int_inv,hrun]
  · have:=VR.slice (B:=s.H.B) (N:=(s.H.new default).live) (φ:=φ') s.H.next 0 l.toNat z c.toNat hr.base (.inr rfl) (by omega) (fun hz' => absurd hz' hz) (by rw [hφ]; simp)
    rw [hφ] at this
    simpa using this
end
end Go.Proofs.Orl

namespace Go.Proofs.Orl
open Go

inductive XR (B:Nat) (N:Nat→Prop) (φ:Ph):Exit→Exit→Prop
  | normal:XR B N φ .normal .normal
  | exit (id:Nat):XR B N φ (.exit id) (.exit id)
  | goto (l:Nat):XR B N φ (.goto l) (.goto l)
  | ret:XR B N φ .ret .ret
  | panic (v v' : Value):VR B N φ v v'→XR B N φ (.panic [{ v:=v,recovered:=false }]) (.panic [{ v:=v',recovered:=false }])

inductive EdR (B:Nat) (N:Nat→Prop) (φ:Ph):Ending→Ending→Prop
  | returned (v v' : Value):VR B N φ v v'→EdR B N φ (.returned v) (.returned v')
  | panicked (v v' : Value):VR B N φ v v'→EdR B N φ (.panicked [{ v:=v,recovered:=false }]) (.panicked [{ v:=v',recovered:=false }])

def fence (r:Option Nat) (φ:Ph):Fence:=match r with | none => Fence.wide | some l => Fence.wide.inRound (φ l).b

theorem fence_eq {r:Option Nat} {φ φ' : Ph} {N:Nat→Prop} (hr : ∀ l,r=some l→N l) (h : ∀ n,N n→φ' n=φ n):fence r φ' = fence r φ:=by
  cases r with
  | none => rfl
  | some l => simp [fence,h l (hr l rfl)]

theorem fence_fn (r:Option Nat) (φ:Ph) (f:FuncId) : (fence r φ).fn f:=by cases r <;> trivial
theorem fence_depth (r:Option Nat) (φ:Ph) : (fence r φ).depth=none:=by cases r <;> rfl

def Out (φ:Ph) (s:St) (w:World) (e:Exit) (s' : St):Exit→Act→World→Prop :=
  fun e' a' w' => ∃ φ',XR s'.H.B s'.H.live φ' e e'∧Rel φ' s'.H w'∧AcR s'.H.B s'.H.live φ' s' a'∧Ext φ φ' s.H s'.H w w'

def TC (P:Program) (r:Option Nat) (c:Code) (s:St) (e:Exit) (s' : St):Prop :=
  ∀ (φ:Ph) (w:World) (a' : Act),Rel φ s.H w→AcR s.H.B s.H.live φ s a'→(∀ l,r=some l→s.H.live l)→
    c.wpIn (fence r φ) 0 P (Out φ s w e s') a' w

def TO (P:Program) (r:Option Nat) (ops:Array Oper) (l:List Nat) (s:St) (e:Exit) (s' : St):Prop :=
  ∀ (φ:Ph) (w:World) (a' : Act),Rel φ s.H w→AcR s.H.B s.H.live φ s a'→(∀ l,r=some l→s.H.live l)→
    wpOpsIn (fence r φ) 0 P ops (Out φ s w e s') l a' w

def T (P:Program) (f:FuncId) (args:Array Value) (H:SH) (e:Ending) (H' : SH):Prop :=
  ∀ (φ:Ph) (w:World) (args' : Array Value),Rel φ H w→AR H.B H.live φ args args'→
    CallsIn Fence.wide 0 P f args' w fun e' w' => ∃ φ',EdR H'.B H'.live φ' e e'∧Rel φ' H' w'∧Ext φ φ' H H' w w'

theorem AcR.put {B:Nat} {N:Nat→Prop} {φ:Ph} {s:St} {a' : Act} (r:AcR B N φ s a') (d:Option Tmp) (hd : ∀ k,d=some k→k < s.n) {v v' : Value} (h:v=undef∨VR B N φ v v') (H:SH):AcR B N φ (s.put d v H) (a'.put d v'):=by
  cases d with
  | none => exact ⟨r.tmps,r.defers⟩
  | some d =>
    refine ⟨⟨by simpa [Act.put,St.put] using r.tmps.size,fun t => ?_⟩,r.defers⟩
    show lk ((d,v) :: s.g) t=undef∨VR B N φ (lk ((d,v) :: s.g) t) _
    rw [lk_cons]
    by_cases e:d=t
    · subst e
      have hlt:d < a'.tmps.size:=by rw [r.tmps.size]; exact hd d rfl
      have e2 : (a'.put (some d) v').tmps.getD d undef=v':=by simp [Act.put,hlt]
      rw [e2]
      simpa using h
    · have e2 : (a'.put (some d) v').tmps.getD t undef=a'.tmps.getD t undef:=by simp [Act.put,Array.getD_eq_getD_getElem?,Array.getElem?_setIfInBounds_ne e]
      rw [e2]
      simpa [e] using r.tmps.val t

theorem Ext.B {φ φ' : Ph} {H H' : SH} {w w' : World} (x:Ext φ φ' H H' w w'):H'.B=H.B:=by unfold SH.B; rw [x.old]

section
variable {P:Program} {r:Option Nat} {s s1 s' : St} {e:Exit}

theorem tc_skip:TC P r .skip s .normal s:=fun φ w a' hr ha _ => wpIn_skip ⟨φ,.normal,hr,ha,.refl _ _ _⟩
theorem tc_label (l:Nat):TC P r (.label l) s .normal s:=fun φ w a' hr ha _ => wpIn_label ⟨φ,.normal,hr,ha,.refl _ _ _⟩
theorem tc_exit (id:Nat):TC P r (.exit id) s (.exit id) s:=fun φ w a' hr ha _ => wpIn_exit ⟨φ,.exit id,hr,ha,.refl _ _ _⟩
theorem tc_ret:TC P r .ret s .ret s:=fun φ w a' hr ha _ => wpIn_ret ⟨φ,.ret,hr,ha,.refl _ _ _⟩

theorem Out.after {φ:Ph} {w:World} {φ1:Ph} {w1:World} (hx:Ext φ φ1 s.H s1.H w w1) {e' : Exit} {a' : Act} {w' : World} (h:Out φ1 s1 w1 e s' e' a' w'):Out φ s w e s' e' a' w':=by
  obtain ⟨φ2,g1,g2,g3,g4⟩:=h
  exact ⟨φ2,g1,g2,g3,hx.trans g4⟩

theorem tc_seq {x y:Code} (h1:TC P r x s .normal s1) (h2:TC P r y s1 e s'):TC P r (.seq x y) s e s':=fun φ w a' hr ha hl => by
  refine wpIn_seq (wpIn_mono (h1 φ w a' hr ha hl) fun e1 a1 w1 ho => ?_)
  obtain ⟨φ1,hx,hr1,ha1,hext⟩:=ho
  cases hx
  have h:=h2 φ1 w1 a1 hr1 ha1 fun l hl' => hext.live l (hl l hl')
  rw [fence_eq hl hext.same] at h
  exact wpIn_mono h fun e2 a2 w2 ho2 => Out.after hext ho2

theorem tc_seq_out {x y:Code} (h1:TC P r x s e s') (he:e ≠ .normal):TC P r (.seq x y) s e s':=fun φ w a' hr ha hl => by
  refine wpIn_seq (wpIn_mono (h1 φ w a' hr ha hl) fun e1 a1 w1 ho => ?_)
  obtain ⟨φ1,hx,hr1,ha1,hext⟩:=ho
  cases hx with
  | normal => exact absurd rfl he
  | exit id => exact ⟨φ1,.exit id,hr1,ha1,hext⟩
  | goto l => exact ⟨φ1,.goto l,hr1,ha1,hext⟩
  | ret => exact ⟨φ1,.ret,hr1,ha1,hext⟩
  | panic v v' hv => exact ⟨φ1,.panic v v' hv,hr1,ha1,hext⟩

theorem tc_cond {c:Operand} {x y:Code} {t:Bool} (hc:s.ev c=.bool t) (hok:okO c=true) (h:TC P r (if t then x else y) s e s'):TC P r (.cond c x y) s e s':=fun φ w a' hr ha hl => by
  have:=ha.ev hok hc (by simp [undef])
  exact wpIn_cond this.bool_inv (h φ w a' hr ha hl)

def inBlk (id:Nat):Exit→Exit
  | .exit id' => if id' = id then .normal else .exit id'
  | e => e

theorem tc_block {id:Nat} {c:Code} (h:TC P r c s e s'):TC P r (.block id c) s (inBlk id e) s':=fun φ w a' hr ha hl => by
  refine wpIn_block (wpIn_mono (h φ w a' hr ha hl) fun e1 a1 w1 ho => ?_)
  obtain ⟨φ1,hx,hr1,ha1,hext⟩:=ho
  cases hx with
  | normal => exact ⟨φ1,.normal,hr1,ha1,hext⟩
  | exit id' =>
    simp only [Exit.inBlock,inBlk]
    split
    · exact ⟨φ1,.normal,hr1,ha1,hext⟩
    · exact ⟨φ1,.exit id',hr1,ha1,hext⟩
  | goto l => exact ⟨φ1,.goto l,hr1,ha1,hext⟩
  | ret => exact ⟨φ1,.ret,hr1,ha1,hext⟩
  | panic v v' hv => exact ⟨φ1,.panic v v' hv,hr1,ha1,hext⟩

inductive Rounds (P:Program) (r:Option Nat) (c:Code):St→Exit→St→Prop
  | last {s s' : St} {e:Exit} : TC P r c s e s'→e ≠ .normal→Rounds P r c s e s'
  | more {s s1 s' : St} {e:Exit} : TC P r c s .normal s1→Rounds P r c s1 e s'→Rounds P r c s e s'

theorem rounds_arrive {c:Code} (h:Rounds P r c s e s') : ∀ (φ:Ph) (w:World) (a' : Act),Rel φ s.H w→AcR s.H.B s.H.live φ s a'→(∀ l,r=some l→s.H.live l)→
    ∀ (b:Frame) (k:List Item) (cs:List Frame),b.roundOf=(fence r φ).round→(fence r φ).fn b.fn→(fence r φ).room (cs.length + 1 + 0)→
      ∃ e' a'' w',Out φ s w e s' e' a'' w'∧ArrivesIn (Machine.fenced P (fence r φ)) P (lone (b.atR a' (.code c :: .inLoop c :: k)) cs w) b k cs e' a'' w':=by
  induction h with
  | last h he =>
    intro φ w a' hr ha hl b k cs hro hb hroom
    obtain ⟨e1,a1,w1,ho,harr⟩:=h φ w a' hr ha hl b (.inLoop c :: k) cs hro hb hroom
    refine ⟨e1,a1,w1,ho,.pass (x:=.inLoop c) rfl (fun _ _ => .inl ?_) harr⟩
    obtain ⟨φ1,hx,_⟩:=ho
    cases hx <;> first | exact absurd rfl he | simp
  | more h hrest ih =>
    intro φ w a' hr ha hl b k cs hro hb hroom
    obtain ⟨e1,a1,w1,ho,harr⟩:=h φ w a' hr ha hl b (.inLoop c :: k) cs hro hb hroom
    obtain ⟨φ1,hx,hr1,ha1,hext⟩:=ho
    cases hx
    have hl1 : ∀ l,r=some l→SH.live _ l:=fun l hl' => hext.live l (hl l hl')
    have hf:=fence_eq hl hext.same
    obtain ⟨e2,a2,w2,ho2,harr2⟩:=ih φ1 w1 a1 hr1 ha1 hl1 b k cs (by rw [hf]; exact hro) (by rw [hf]; exact hb) (by rw [hf]; exact hroom)
    rw [hf] at harr2
    exact ⟨e2,a2,w2,Out.after hext ho2,.of_steps (StepsIn.trans harr (.one (fenced_calm hb hroom rfl) stepR_inLoop)) harr2⟩

theorem tc_loop {c:Code} (h:Rounds P r c s e s'):TC P r (.loop c) s e s':=fun φ w a' hr ha hl b k cs hro hb hroom => by
  obtain ⟨e1,a1,w1,ho,harr⟩:=rounds_arrive h φ w a' hr ha hl b k cs hro hb hroom
  exact ⟨e1,a1,w1,ho,.of_steps (.one (fenced_calm hb hroom rfl) stepR_loop) harr⟩

theorem to_nil {ops:Array Oper} : TO P r ops [] s .normal s:=fun φ w a' hr ha _ => ⟨φ,.normal,hr,ha,.refl _ _ _⟩

def wants (ops:Array Oper) (s:St) (o:Oper) (b:Bool):Prop :=
  match o.guard with
  | none => b=true
  | some (j,want) => ∃ d c,(ops[j]?).bind (·.dst) = some d∧d < s.n∧lk s.g d=.bool c∧b=(c == want)

theorem wants_rel {B:Nat} {N:Nat→Prop} {φ:Ph} {ops:Array Oper} {o:Oper} {a' : Act} {b:Bool} (ha:AcR B N φ s a') (h:wants ops s o b):Region.wanted o (yielded ops a'.tmps) = b:=by
  unfold wants at h
  unfold Region.wanted
  cases hg:o.guard with
  | none => simp only [hg] at h; exact h.symm
  | some x =>
    obtain ⟨j,want⟩:=x
    simp only [hg] at h
    obtain ⟨d,c,h1,h2,h3,rfl⟩:=h
    have hv:=ha.tmps.val d
    rw [h3] at hv
    have hv':=(hv.resolve_left (by simp [undef])).bool_inv
    have hlt:d < a'.tmps.size:=by rw [ha.tmps.size]; exact h2
    have:a'.tmps[d]? = some (.bool c):=by
      rw [Array.getD_eq_getD_getElem?,Array.getElem?_eq_getElem hlt] at hv'
      rw [Array.getElem?_eq_getElem hlt]
      simpa using hv'
    simp only [yielded,h1,Option.bind_some,this]
    cases c <;> cases want <;> rfl

theorem wpOps_mono {F:Fence} {n:Nat} {ops:Array Oper} {Q Q' : Exit→Act→World→Prop} (hq : ∀ e a w,Q e a w→Q' e a w) : ∀ (l:List Nat) (a:Act) (w:World),wpOpsIn F n P ops Q l a w→wpOpsIn F n P ops Q' l a w:=by
  intro l
  induction l with
  | nil => exact fun a w h => hq _ _ _ h
  | cons i rest ih =>
    intro a w h
    simp only [wpOpsIn] at h ⊢
    cases ho:ops[i]? with
    | none => simp only [ho] at h; exact ih _ _ h
    | some o =>
      simp only [ho] at h ⊢
      split
      · rename_i hw
        rw [if_pos hw] at h
        refine ⟨h.1,?_⟩
        have h2:=h.2
        generalize (o.semAt F.round a.eval).run P w=res at h2 ⊢
        have lets:LetsOut Q→LetsOut Q':=fun ⟨a0,w0,h0⟩ => ⟨a0,w0,hq _ _ _ h0⟩
        cases res with
        | ok x w' =>
          cases x <;> simp only [Oper.uponIn] at h2 ⊢ <;> first | exact ih _ _ h2 | exact h2 | skip
          case enter f args => exact ⟨h2.1,h2.2.mono fun e w'' he => by cases e <;> first | exact ih _ _ he | exact hq _ _ _ he | exact lets he⟩
          case row row args => exact ⟨h2.1,h2.2.mono fun v w'' he => ih _ _ he⟩
          case round l f tmps asg body => exact ⟨h2.1,h2.2.mono fun e w'' he => by cases e <;> first | exact ih _ _ he | exact hq _ _ _ he | exact lets he⟩
        | halt x w' => cases x <;> simp only [Oper.uponIn] at h2 ⊢ <;> first | exact hq _ _ _ h2 | exact h2
      · rename_i hw
        rw [if_neg hw] at h
        exact ⟨h.1,ih _ _ h.2⟩

@[simp] theorem put_H (s:St) (d:Option Tmp) (v:Value) (H:SH) : (s.put d v H).H=H:=by cases d <;> rfl

theorem to_skip {ops:Array Oper} {i:Nat} {l:List Nat} {o:Oper} (ho:ops[i]? = some o) (hw:wants ops s o false) (hd : ∀ k,o.dst=some k→k < s.n)
    (h:TO P r ops l (s.put o.dst undef s.H) e s'):TO P r ops (i :: l) s e s':=fun φ w a' hr ha hl => by
  simp only [wpOpsIn,ho]
  rw [wants_rel ha hw]
  exact ⟨fun f _ => fence_fn r φ f,wpOps_mono (fun e2 a2 w2 ho2 => Out.after (s:=s) (s1:=s.put o.dst undef s.H) (by rw [put_H]; exact Ext.refl _ _ _) ho2) _ _ _ (h φ w (a'.put o.dst undef) (by rw [put_H]; exact hr) (by rw [put_H]; exact ha.put _ hd (.inl rfl) _) (by rw [put_H]; exact hl))⟩

theorem to_val {ops:Array Oper} {i:Nat} {l:List Nat} {o:Oper} {v:Value} {H1:SH} (ho:ops[i]? = some o) (hw:wants ops s o true) (hd : ∀ k,o.dst=some k→k < s.n)
    (hv:OpV P o s v H1) (h:TO P r ops l (s.put o.dst v H1) e s'):TO P r ops (i :: l) s e s':=fun φ w a' hr ha hl => by
  simp only [wpOpsIn,ho]
  rw [wants_rel ha hw]
  refine ⟨fun f _ => fence_fn r φ f,?_⟩
  obtain ⟨φ1,w1,v',hrun,hvr,hr1,hext⟩:=hv.2 φ w a' hr ha
  rw [Oper.semAt_eq _ _ _ hv.1]
  have h1:=h φ1 w1 (a'.put o.dst v') (by rw [put_H]; exact hr1) (by rw [put_H]; exact (hext.acr ha).put _ hd hvr _) (by rw [put_H]; exact fun l hl' => hext.live l (hl l hl'))
  rw [fence_eq hl hext.same] at h1
  have h2:=wpOps_mono (fun e2 a2 w2 ho2 => Out.after (s:=s) (s1:=s.put o.dst v _) (by rw [put_H]; exact hext) ho2) _ _ _ h1
  rcases hrun with hrun | ⟨hrun,rfl⟩
  · rw [hrun]; exact h2
  · rw [hrun]; exact h2

structure CallOp (P:Program) (o:Oper) (s:St) (f:FuncId) (args:Array Value):Prop where
  nodefer : ∀ c,o.op ≠ .defer c
  run : ∀ (φ:Ph) (w:World) (a' : Act),Rel φ s.H w→AcR s.H.B s.H.live φ s a'→∃ args',(execOp a'.eval o).run P w=.ok (.enter f args') w∧AR s.H.B s.H.live φ args args'

theorem to_call {ops:Array Oper} {i:Nat} {l:List Nat} {o:Oper} {f:FuncId} {args:Array Value} {v:Value} {H1:SH} (ho:ops[i]? = some o) (hw:wants ops s o true) (hd : ∀ k,o.dst=some k→k < s.n)
    (hc:CallOp P o s f args) (ht:T P f args s.H (.returned v) H1) (h:TO P r ops l (s.put o.dst v H1) e s'):TO P r ops (i :: l) s e s':=fun φ w a' hr ha hl => by
  simp only [wpOpsIn,ho]
  rw [wants_rel ha hw]
  refine ⟨fun f _ => fence_fn r φ f,?_⟩
  obtain ⟨args',hrun,har⟩:=hc.run φ w a' hr ha
  rw [Oper.semAt_eq _ _ _ hc.nodefer,hrun]
  refine ⟨(fun hd => by (rw [fence_depth] at hd; cases hd)),?_⟩
  have hcall:=ht φ w args' hr har
  have hcall' : CallsIn (fence r φ) (0 - 1) P f args' w fun e' w' => ∃ φ',EdR H1.B H1.live φ' (.returned v) e'∧Rel φ' H1 w'∧Ext φ φ' s.H H1 w w':=by
    cases r with
    | none => exact hcall
    | some l => exact hcall
  refine hcall'.mono fun e1 w1 he => ?_
  obtain ⟨φ1,hed,hr1,hext⟩:=he
  cases hed with
  | returned _ v' hvr =>
    have h1:=h φ1 w1 (a'.put o.dst v') (by rw [put_H]; exact hr1) (by rw [put_H]; exact (hext.acr ha).put _ hd (.inr hvr) _) (by rw [put_H]; exact fun l hl' => hext.live l (hl l hl'))
    rw [fence_eq hl hext.same] at h1
    exact wpOps_mono (fun e2 a2 w2 ho2 => Out.after (s:=s) (s1:=s.put o.dst v _) (by rw [put_H]; exact hext) ho2) _ _ _ h1

theorem tc_region {id:Nat} {ops:Array Oper} (h:TO P r ops (List.range ops.size) s e s'):TC P r (.region id ops false) s e s':=fun φ w a' hr ha hl => wpIn_region (h φ w a' hr ha hl)

def resF (tmps:Array Value):ResultVar→Sem Value
  | .tmp t => pure (tmps.getD t undef)
  | .cell a t => do loadVar t (← asAddr (tmps.getD a undef))

theorem results_eq (fn:Func) (tmps:Array Value):results fn tmps=(fn.results.mapM (resF tmps)) >>= fun vs => pure (if h:vs.size=1 then vs[0] else .tuple vs):=by
  have : (fun x:ResultVar => (match x with
    | .tmp t => pure (tmps.getD t undef)
    | .cell a t => do loadVar t (← asAddr (tmps.getD a undef)):Sem Value)) = resF tmps:=by
    funext x; cases x <;> rfl
  rw [← this]
  rfl

def ResV (P:Program) (s:St) (x:ResultVar) (v:Value):Prop :=
  ∀ (φ:Ph) (w:World) (a' : Act),Rel φ s.H w→AcR s.H.B s.H.live φ s a'→
    ∃ v',(resF a'.tmps x).run P w=.ok v' w∧VR s.H.B s.H.live φ v v'

inductive ResL (P:Program) (s:St):List ResultVar→List Value→Prop
  | nil:ResL P s [] []
  | cons {x:ResultVar} {v:Value} {l:List ResultVar} {vs:List Value} : ResV P s x v→ResL P s l vs→ResL P s (x :: l) (v :: vs)

theorem resV_tmp {t:Nat} {v:Value} (hv:lk s.g t=v) (hne:v ≠ undef):ResV P s (.tmp t) v:=fun φ w a' _ ha => by
  have:=ha.tmps.val t
  rw [hv] at this
  exact ⟨_,rfl,this.resolve_left hne⟩

theorem resV_cell {a t n k z:Nat} {b:Bool} {c:Array Value} {e:Tag} (hv:lk s.g a=.pointer (some ⟨n,k,none⟩)) (hag:aggT P t=some b) (hs:szT P t=some z)
    (hn:s.H.get n=some (.row c e)) (hk:k + z ≤ c.size) (hb:b=true∨z=1):ResV P s (.cell a t) (ldV b c k z):=fun φ w a' hr ha => by
  have h:=ha.tmps.val a
  rw [hv] at h
  replace h:=h.resolve_left (by simp [undef])
  obtain ⟨g,k',v',e',hl,hvr⟩:=load_core (P:=P) hr h hag hs hn hk hb
  exact ⟨v',by simp only [resF,e',asAddr,Sem.run_bind,Sem.run_pure,Result.andThen_ok,hl],hvr⟩

theorem resL_run {φ:Ph} {w:World} {a' : Act} (hr:Rel φ s.H w) (ha:AcR s.H.B s.H.live φ s a') {l:List ResultVar} {vs:List Value} (h:ResL P s l vs) :
    ∃ vs' : List Value,vs.length=vs'.length∧(∀ i,i < vs.length→VR s.H.B s.H.live φ (vs.getD i undef) (vs'.getD i undef))∧
      (l.mapM (resF a'.tmps)).run P w=.ok vs' w:=by
  induction h with
  | nil => exact ⟨[],rfl,by simp,by simp⟩
  | cons hx _ ih =>
    obtain ⟨v',h1,h2⟩:=hx φ w a' hr ha
    obtain ⟨vs',g1,g2,g3⟩:=ih
    refine ⟨v' :: vs',by simp [g1],fun i hi => ?_,?_⟩
    · cases i with
      | zero => simpa using h2
      | succ i => simpa using g2 i (by simpa using hi)
    · rw [List.mapM_cons]
      simp only [Sem.run_bind,h1,Result.andThen_ok,g3,Sem.run_pure]

def resOf (vs:List Value):Value:=match vs with | [v] => v | _ => .tuple vs.toArray

theorem results_run {fn:Func} {φ:Ph} {w:World} {a' : Act} {vs:List Value} (hr:Rel φ s.H w) (ha:AcR s.H.B s.H.live φ s a') (h:ResL P s fn.results.toList vs) :
    ∃ v',(results fn a'.tmps).run P w=.ok v' w∧VR s.H.B s.H.live φ (resOf vs) v':=by
  obtain ⟨vs',g1,g2,g3⟩:=resL_run hr ha h
  have hm : (fn.results.mapM (resF a'.tmps)).run P w=.ok vs'.toArray w:=by
    rw [Array.mapM_eq_mapM_toList]
    simp only [Sem.run_map,g3,Result.andThen_ok]
  rw [results_eq,Sem.run_bind,hm]
  simp only [Result.andThen_ok,Sem.run_pure]
  refine ⟨_,rfl,?_⟩
  match vs,vs',g1 with
  | [],[],_ => exact .mkTuple ⟨rfl,fun i hi => by simp at hi⟩
  | [v],[v'],_ => simpa [resOf] using g2 0 (by simp)
  | v :: u :: l,v' :: u' :: l',hlen =>
    have hne : ¬ (v' :: u' :: l').toArray.size=1:=by simp
    rw [dif_neg hne]
    refine .mkTuple ⟨by simpa using hlen,fun i hi => ?_⟩
    have:=g2 i (by simpa using hi)
    simpa [Array.getD_eq_getD_getElem?,List.getD] using this

def argsL:Nat→List Value→List (Nat × Value)
  | _,[] => []
  | k,v :: l => (k,v) :: argsL (k + 1) l

def enterSt (fn:Func) (args:List Value) (H:SH):St:=⟨argsL 0 args,args.length + (fn.ntmps - args.length),[],H⟩

theorem lk_argsL : ∀ (l:List Value) (k t:Nat),lk (argsL k l) t=if k ≤ t then l.getD (t - k) undef else undef:=by
  intro l
  induction l with
  | nil => intro k t; simp [argsL,lk]
  | cons v l ih =>
    intro k t
    simp only [argsL,lk_cons,ih]
    by_cases h:k=t
    · simp [h]
    · by_cases h2:k + 1 ≤ t
      · have:t - k=(t - (k + 1)) + 1:=by omega
        simp [h,h2,show k ≤ t by omega,this]
      · simp [h,h2,show ¬ k ≤ t by omega]

theorem enter_rel {B:Nat} {N:Nat→Prop} {φ:Ph} {fn:Func} {args:List Value} {args' : Array Value} (H:SH) (har:AR B N φ args.toArray args') :
    AcR B N φ (enterSt fn args H) { tmps:=args'++Array.replicate (fn.ntmps - args'.size) undef,defers:=[] }:=by
  have hs:args.length=args'.size:=by simpa using har.1
  refine ⟨⟨by simp [enterSt,hs],fun t => ?_⟩,.nil⟩
  show lk (argsL 0 args) t=undef∨VR B N φ (lk (argsL 0 args) t) _
  rw [lk_argsL]
  simp only [Nat.zero_le,if_true,Nat.sub_zero]
  by_cases ht:t < args.length
  · right
    have:=har.2 t (by simpa using ht)
    have ht' : t < args'.size:=hs ▸ ht
    simpa [Array.getD_eq_getD_getElem?,Array.getElem?_append,ht',List.getD] using this
  · left; simp [List.getD,List.getElem?_eq_none (Nat.le_of_not_lt ht)]

theorem t_of_body {f:FuncId} {fn:Func} {c:Code} {args:List Value} {H:SH} {vs:List Value} (hf:P.funcs[f]? = some fn) (hb:fn.body=some c)
    (hc:TC P none c (enterSt fn args H) e s') (he:e=.normal∨e=.ret) (hd:s'.ds=[]) (hres:ResL P s' fn.results.toList vs):T P f args.toArray H (.returned (resOf vs)) s'.H:=by
  intro φ w args' hr har
  refine callsIn_of_wp hf hb trivial (wpIn_mono (hc φ w { tmps:=args'++Array.replicate (fn.ntmps - args'.size) undef,defers:=[] } hr (enter_rel H har) (by simp)) fun e1 a1 w1 ho => ?_)
  · obtain ⟨φ1,hx,hr1,ha1,hext⟩:=ho
    have hd1:a1.defers=[]:=by
      have:=ha1.defers
      rw [hd] at this
      generalize a1.defers=dd at this
      cases this; rfl
    obtain ⟨v',hv,hvr⟩:=results_run (P:=P) (fn:=fn) hr1 ha1 hres
    rcases he with rfl | rfl
    · cases hx
      exact ⟨hd1,v',hv,φ1,.returned _ _ hvr,hr1,hext⟩
    · cases hx
      exact ⟨hd1,v',hv,φ1,.returned _ _ hvr,hr1,hext⟩

theorem T.drop {f:FuncId} {args:Array Value} {H H' : SH} {e:Ending} (h:T P f args H e H') (n:Nat):T P f args H e (H'.put n none):=fun φ w args' hr har =>
  (h φ w args' hr har).mono fun e1 w1 ⟨φ1,h1,h2,h3⟩ => ⟨φ1,h1,h2.drop n,h3.trans (Ext.drop φ1 H' w1 n)⟩
end
end Go.Proofs.Orl

namespace Go.Proofs.Orl
open Go

def jumpOf:Exit→Option (Option Code)
  | .normal => some none
  | .ret => some (some .ret)
  | .exit id => some (some (.exit id))
  | .goto l => some (some (.goto l))
  | _ => none

def zipSet:List Tmp→List Value→List (Nat × Value)→List (Nat × Value)
  | p :: ps,v :: vs,g => zipSet ps vs ((p,v) :: g)
  | _,_,g => g

inductive RoundT (P:Program) (L:Nat) (args:List Value) (H:SH):Bool→SH→Prop
  | mk {rec rec1 rec2:SLoop} {s1 s2:St} {e:Exit} {jump:Option Code} : H.get L=some (.loop rec)→args.length=rec.params.size→(∀ p ∈ rec.params,p < rec.n)→
      TC P (some L) rec.assign ⟨zipSet rec.params.toList args rec.g,rec.n,[],H⟩ .normal s1→s1.H.get L=some (.loop rec1)→rec1.state=.ready→
      TC P (some L) rec.body { s1 with H:=s1.H.put L (some (.loop { rec1 with state:=.busy })) } e s2→jumpOf e=some jump→s2.H.get L=some (.loop rec2)→
      RoundT P L args H jump.isNone (s2.H.put L (some (.loop { rec2 with state:=if jump.isNone then .ready else .done,pending:=jump })))

inductive CallV (P:Program):Value→List Value→SH→Ending→SH→Prop
  | func {f:FuncId} {first cap args:List Value} {H H' : SH} {e:Ending} : (∀ args w,(callFunc f args).run P w=.ok (.enter f args) w)→T P f (first++args++cap).toArray H e H'→CallV P (.func (.func f) first.toArray cap.toArray) args H e H'
  | yield {L:Nat} {args:List Value} {H H' : SH} {b:Bool} : RoundT P L args H b H'→CallV P (.func (.yield L) #[] #[]) args H (.returned (.bool b)) H'

section
variable {P:Program} {r:Option Nat} {s s1 s' : St} {e:Exit}

theorem callop_value {o:Oper} {fx:Operand} {xs:List Operand} {vs:List Value} {ts:Array TypeId} {f:FuncId} {first cap:List Value} (ho:o.op=.call { callee:=.value fx,args:=xs.toArray,argTypes:=ts })
    (hf:okO fx=true) (hxs:Evs s xs vs) (hv:s.ev fx=.func (.func f) first.toArray cap.toArray) (hcall : ∀ args w,(callFunc f args).run P w=.ok (.enter f args) w) :
    CallOp P o s f (first++vs++cap).toArray:=by
  refine ⟨by simp [ho],fun φ w a' hr ha => ?_⟩
  have h:=ha.ev hf hv (by simp [undef])
  have h' : ∃ b c,a'.eval fx=.func (.func f) b c∧AR s.H.B s.H.live φ first.toArray b∧AR s.H.B s.H.live φ cap.toArray c:=by
    revert h; generalize a'.eval fx=y; intro h
    cases h with
    | func f f' x x' c c' hf h1 h2 h3 h4 => cases hf; exact ⟨_,_,rfl,⟨h1,h2⟩,⟨h3,h4⟩⟩
  obtain ⟨b,c,hb,h1,h2⟩:=h'
  refine ⟨b++xs.toArray.map a'.eval++c,?_,?_⟩
  · simp only [execOp,ho,resolve,hb,Deferred.ofValue,Sem.run_bind,Sem.run_pure,Result.andThen_ok,invoke,hcall]
  · have:=(h1.append (hxs.rel ha)).append h2
    simpa using this

theorem zipSet_rel {B:Nat} {N:Nat→Prop} {φ:Ph} {n:Nat} : ∀ (ps:List Tmp) (x x' : List Value) (g:List (Nat × Value)) (t' : Array Value),x.length=x'.length→(∀ i,i < x.length→VR B N φ (x.getD i undef) (x'.getD i undef))→(∀ p ∈ ps,p < n)→GR B N φ g n t'→
    GR B N φ (zipSet ps x g) n ((ps.zip x').foldl (fun tmps (t,a) => tmps.setIfInBounds t a) t'):=by
  intro ps
  induction ps with
  | nil => intro x x' g t' _ _ _ ht; cases x <;> simpa [zipSet] using ht
  | cons p ps ih =>
    intro x x' g t' hl hv hp ht
    cases x with
    | nil => cases x' with | nil => simpa [zipSet] using ht | cons => simp at hl
    | cons v x =>
      cases x' with
      | nil => simp at hl
      | cons v' x' =>
        simp only [zipSet,List.zip_cons_cons,List.foldl_cons]
        refine ih x x' _ _ (by simpa using hl) (fun i hi => by simpa using hv (i + 1) (by simpa using hi)) (fun q hq => hp q (by simp [hq])) ⟨by simp [ht.size],fun t => ?_⟩
        rw [lk_cons]
        by_cases e:p=t
        · subst e
          have hlt:p < t'.size:=by rw [ht.size]; exact hp p (by simp)
          have e2 : (t'.setIfInBounds p v').getD p undef=v':=by simp [hlt]
          rw [e2]
          right
          simpa using hv 0 (by simp)
        · have e2 : (t'.setIfInBounds p v').getD t undef=t'.getD t undef:=by simp [Array.getD_eq_getD_getElem?,Array.getElem?_setIfInBounds_ne e]
          rw [e2]
          simpa [e] using ht.val t

theorem obj_own {φ:Ph} {H:SH} {w:World} (hr:Rel φ H w) {n:Nat} {o:Obj} (hn:H.get n=some (.obj o)) : ∃ o',w.heap[(φ n).b]? = some o'∧OR H.B H.live φ o o'∧(φ n).o=0:=by
  obtain ⟨hnB,y,hy,hbr⟩:=hr.own n _ hn
  cases hbr with
  | obj _ _ h1 h2 => exact ⟨y,hy,h2,h1⟩

theorem loop_own {φ:Ph} {H:SH} {w:World} (hr:Rel φ H w) {n:Nat} {l:SLoop} (hn:H.get n=some (.loop l)) : ∃ l',w.heap[(φ n).b]? = some (.loop l')∧LR H.B H.live φ l l'∧(φ n).o=0:=by
  obtain ⟨hnB,y,hy,hbr⟩:=hr.own n _ hn
  cases hbr with
  | loop _ l' h1 h2 => exact ⟨l',hy,h2,h1⟩

theorem rel_putObj {φ:Ph} {H:SH} {w:World} (hr:Rel φ H w) {n:Nat} {z x:SBlk} (hn:H.get n=some z) {o' : Obj} (ho:BR H.B H.live φ (φ n) x o') :
    Rel φ (H.put n (some x)) (w.putObj (φ n).b o')∧Ext φ φ H (H.put n (some x)) w (w.putObj (φ n).b o'):=by
  obtain ⟨hnB,y,hy,_⟩:=hr.own n _ hn
  have hlt : (φ n).b < w.heap.size:=(Array.getElem?_eq_some_iff.1 hy).1
  exact rel_turn hr hn (World.putObj_heap_same hlt) ho (fun b hb => World.putObj_heap_other hb) (by simp) rfl rfl

theorem to_yield {ops:Array Oper} {i:Nat} {l:List Nat} {o:Oper} {fx:Operand} {xs:List Operand} {vs:List Value} {ts:Array TypeId} {L:Nat} {b:Bool} {H1:SH} (ho:ops[i]? = some o) (hw:wants ops s o true) (hd : ∀ k,o.dst=some k→k < s.n)
    (hop:o.op=.call { callee:=.value fx,args:=xs.toArray,argTypes:=ts }) (hf:okO fx=true) (hxs:Evs s xs vs) (hv:s.ev fx=.func (.yield L) #[] #[])
    (ht:RoundT P L vs s.H b H1) (h:TO P r ops l (s.put o.dst (.bool b) H1) e s'):TO P r ops (i :: l) s e s':=fun φ w a' hr ha hl => by
  simp only [wpOpsIn,ho]
  rw [wants_rel ha hw]
  refine ⟨fun f _ => fence_fn r φ f,?_⟩
  rw [Oper.semAt_eq _ _ _ (by simp [hop])]
  have har:=hxs.rel ha
  have hfv:=ha.ev hf hv (by simp [undef])
  generalize hga' : xs.toArray.map a'.eval=args' at *
  have hfv' : a'.eval fx=.func (.yield (φ L).b) #[] #[]∧s.H.B ≤ L∧s.H.live L:=by
    revert hfv; generalize a'.eval fx=y; intro hfv
    cases hfv with
    | func f f' x x' c c' hf h1 h2 h3 h4 =>
      cases hf with
      | yield _ g1 g2 =>
        have e1:x' = #[]:=by apply Array.eq_empty_of_size_eq_zero; simpa using h1.symm
        have e2:c' = #[]:=by apply Array.eq_empty_of_size_eq_zero; simpa using h3.symm
        rw [e1,e2]; exact ⟨rfl,g1,g2⟩
  obtain ⟨hfe,hLB,hLN⟩:=hfv'
  cases ht with
  | @mk rec rec1 rec2 s1 s2 e2 jump hrec hsize hps hasg hrec1 hst hbody hj hrec2 =>
    obtain ⟨l',hl1,hl2,hl3⟩:=loop_own hr hrec
    have hasz:args'.size=l'.params.size:=by rw [← har.1,hl2.params]; simpa using hsize
    obtain ⟨tm,htm⟩ : ∃ tm,tm=(l'.params.zip args').foldl (fun tmps (t,a) => tmps.setIfInBounds t a) l'.tmps:=⟨_,rfl⟩
    have hgr:GR s.H.B s.H.live φ (zipSet rec.params.toList vs rec.g) rec.n tm:=by
      have:=zipSet_rel (B:=s.H.B) (N:=s.H.live) (φ:=φ) (n:=rec.n) rec.params.toList vs args'.toList rec.g l'.tmps (by simpa using har.1) (fun i hi => by
        have:=har.2 i (by simpa using hi)
        simpa [List.getD,Array.getD_eq_getD_getElem?] using this) (fun p hp => hps p (by simpa using hp)) hl2.tmps
      rw [htm,hl2.params,← Array.foldl_toList,Array.toList_zip]
      exact this
    have hrun : (execOp a'.eval o).run P w=.ok (.round (φ L).b l'.fn tm l'.assign l'.body) w:=by
      have hy:=run_yield (P:=P) hl1 (args:=args') hasz
      rw [← htm] at hy
      simp only [execOp,hop,resolve,hfe,Deferred.ofValue,Sem.run_bind,Sem.run_pure,Result.andThen_ok,invoke,hga',Array.empty_append,hy]
    rw [hrun]
    refine ⟨(fun hd => by (rw [fence_depth] at hd; cases hd)),?_⟩
    have hFe : (fence r φ).inRound (φ L).b=fence (some L) φ:=by cases r <;> rfl
    -- the round
    have hround:RoundIn (fence r φ) (0 - 1) P (φ L).b l'.fn tm l'.assign l'.body w
        (fun e' w' => ∃ φ',e' = .returned (.bool jump.isNone)∧Rel φ' (s2.H.put L (some (.loop { rec2 with state:=if jump.isNone then .ready else .done,pending:=jump }))) w'∧
          Ext φ φ' s.H (s2.H.put L (some (.loop { rec2 with state:=if jump.isNone then .ready else .done,pending:=jump }))) w w'):=by
      refine roundIn_of_wpIn (fence_fn r φ _) ?_
      rw [hFe,hl2.assign]
      refine wpIn_mono (hasg φ w { tmps:=tm,defers:=[] } hr ⟨hgr,.nil⟩ (fun l hl' => by cases hl'; exact hLN)) fun e1 a1 w1 ho1 => ?_
      obtain ⟨φ1,hx1,hr1,ha1,hext1⟩:=ho1
      cases hx1
      obtain ⟨k',hk1,hk2,hk3⟩:=loop_own hr1 hrec1
      have hbr:=run_beginRound (P:=P) hk1 (by rw [hk2.state]; exact hst)
      have hp:=rel_putObj hr1 hrec1 (x:=.loop { rec1 with state:=.busy }) (o':=.loop { k' with state:=.busy })
        (.loop _ _ hk3 ⟨rfl,hk2.pending,hk2.tmps,hk2.params,hk2.assign,hk2.body,hk2.defersB,hk2.defers⟩)
      have hL1:φ1 L=φ L:=hext1.same L hLN
      rw [hL1] at hp hbr
      refine ⟨_,hbr,?_⟩
      have hb2:=hbody φ1 (w1.putObj (φ L).b (.loop { k' with state:=.busy })) a1 hp.1 ⟨ha1.tmps,ha1.defers⟩ (fun l hl' => by cases hl'; exact hext1.live _ hLN)
      have hF1:fence (some L) φ1=fence (some L) φ:=by simp [fence,hL1]
      rw [hF1] at hb2
      rw [hl2.body]
      refine wpIn_mono hb2 fun e3 a3 w3 ho3 => ?_
      obtain ⟨φ3,hx3,hr3,ha3,hext3⟩:=ho3
      have hext13:=(hext1.trans hp.2).trans hext3
      have hL3:φ3 L=φ L:=hext13.same L hLN
      obtain ⟨m',hm1,hm2,hm3⟩:=loop_own hr3 hrec2
      rw [hL3] at hm1 hm3
      have hend:=run_endRound (P:=P) (l:=(φ L).b) (r:=m') jump hm1
      have hp3:=rel_putObj hr3 hrec2 (x:=.loop { rec2 with state:=if jump.isNone then .ready else .done,pending:=jump }) (o':=.loop { m' with state:=if jump.isNone then .ready else .done,pending:=jump })
        (.loop _ _ (by rw [hL3]; exact hm3) ⟨rfl,rfl,hm2.tmps,hm2.params,hm2.assign,hm2.body,hm2.defersB,hm2.defers⟩)
      rw [hL3] at hp3
      have fin : ∃ v w',(Instr.endRound (φ L).b jump).run P w3=.ok v w'∧(∃ φ',Ending.returned v=.returned (.bool jump.isNone)∧Rel φ' (s2.H.put L (some (.loop { rec2 with state:=if jump.isNone then .ready else .done,pending:=jump }))) w'∧
          Ext φ φ' s.H (s2.H.put L (some (.loop { rec2 with state:=if jump.isNone then .ready else .done,pending:=jump }))) w w') :=
        ⟨_,_,hend,φ3,rfl,hp3.1,hext13.trans hp3.2⟩
      cases hx3 <;> simp only [jumpOf,Option.some.injEq] at hj <;> first | (subst hj; exact fin) | (cases hj)
    refine hround.mono fun e1 w1 he => ?_
    obtain ⟨φ1,rfl,hr1,hext⟩:=he
    have h1:=h φ1 w1 (a'.put o.dst (.bool jump.isNone)) (by rw [put_H]; exact hr1) (by rw [put_H]; exact (hext.acr ha).put _ hd (.inr (.bool _)) _) (by rw [put_H]; exact fun l hl' => hext.live l (hl l hl'))
    rw [fence_eq hl hext.same] at h1
    exact wpOps_mono (fun e2 a2 w2 ho2 => Out.after (s:=s) (s1:=s.put o.dst (.bool jump.isNone) _) (by rw [put_H]; exact hext) ho2) _ _ _ h1

theorem to_callv {ops:Array Oper} {i:Nat} {l:List Nat} {o:Oper} {fx:Operand} {xs:List Operand} {vs:List Value} {ts:Array TypeId} {fv v:Value} {H1:SH} (ho:ops[i]? = some o) (hw:wants ops s o true) (hd : ∀ k,o.dst=some k→k < s.n)
    (hop:o.op=.call { callee:=.value fx,args:=xs.toArray,argTypes:=ts }) (hf:okO fx=true) (hxs:Evs s xs vs) (hfv:s.ev fx=fv)
    (ht:CallV P fv vs s.H (.returned v) H1) (h:TO P r ops l (s.put o.dst v H1) e s'):TO P r ops (i :: l) s e s':=by
  generalize hv : (Ending.returned v) = ed at ht
  cases ht with
  | func hcall ht => subst hv; exact to_call ho hw hd (callop_value hop hf hxs hfv hcall) ht h
  | yield ht => cases hv; exact to_yield ho hw hd hop hf hxs hfv ht h

def mark (n:Nat):Deferred:={ target:=.collected n,args:=#[] }

def loopRec (s:St) (ps:Array Tmp) (asg body:Code) (d:Nat):SLoop:={ state:=.ready,pending:=none,g:=s.g,n:=s.n,params:=ps,assign:=asg,body:=body,defers:=d }

def jumpExit:Option Code→Option Exit
  | none => some .normal
  | some .ret => some .ret
  | some (.exit id) => some (.exit id)
  | some (.goto l) => some (.goto l)
  | _ => none

theorem tc_rangeFunc {g:Operand} {ps:Array Tmp} {asg body:Code} {f:FuncId} {first cap:List Value} {v:Value} {H2:SH} {rec2:SLoop} {e:Exit} (hok:okO g=true) (hg:s.ev g=.func (.func f) first.toArray cap.toArray)
    (hcall : ∀ args w,(callFunc f args).run P w=.ok (.enter f args) w)
    (ht:T P f (first++[Value.func (.yield (s.H.next + 1)) #[] #[]]++cap).toArray ((s.H.new (.obj (.deferred (some [])))).new (.loop (loopRec s ps asg body s.H.next))) (.returned v) H2)
    (hrec:H2.get (s.H.next + 1) = some (.loop rec2)) (hst:rec2.state ≠ .busy) (hj:jumpExit rec2.pending=some e) :
    TC P none (.rangeFunc g ps asg body) s e { s with ds:=mark s.H.next :: s.ds,H:=H2.put (s.H.next + 1) none }:=fun φ w a' hr ha hl => by
  have hgv:=ha.ev hok hg (by simp [undef])
  have h' : ∃ b c,a'.eval g=.func (.func f) b c∧AR s.H.B s.H.live φ first.toArray b∧AR s.H.B s.H.live φ cap.toArray c:=by
    revert hgv; generalize a'.eval g=y; intro h
    cases h with
    | func f f' x x' c c' hf h1 h2 h3 h4 => cases hf; exact ⟨_,_,rfl,⟨h1,h2⟩,⟨h3,h4⟩⟩
  obtain ⟨b,c,hb,hfirst,hcap⟩:=h'
  refine wpIn_rangeFunc fun fn _ => ?_
  obtain ⟨φ1,hφ1,hr1,hext1⟩:=rel_new hr (.obj (.deferred (some []))) (.deferred (some [])) 0 (.obj _ _ rfl (.deferred _ _ .nil))
  have hpl : (φ1 s.H.next).b=w.heap.size:=by rw [hφ1]
  have hsame1 : ∀ n,s.H.live n→φ1 n=φ n:=hext1.same
  obtain ⟨φ2,hφ2,hr2,hext2⟩:=rel_new hr1 (.loop (loopRec s ps asg body s.H.next)) (.loop { state:=.ready,pending:=none,fn,tmps:=a'.tmps,params:=ps,assign:=asg,body,defers:=w.heap.size }) 0
    (.loop _ _ rfl ⟨rfl,rfl,(hext1.acr ha).tmps,rfl,rfl,rfl,⟨by simpa [loopRec] using hr.base,by simp [loopRec]⟩,by simp [loopRec,hpl]⟩)
  have hne : (s.H.new (.obj (.deferred (some [])))).next=s.H.next + 1:=rfl
  rw [hne] at hφ2
  have hext12:=hext1.trans hext2
  have har:AR ((s.H.new (.obj (.deferred (some [])))).new (.loop (loopRec s ps asg body s.H.next))).B ((s.H.new (.obj (.deferred (some [])))).new (.loop (loopRec s ps asg body s.H.next))).live φ2
      (first++[Value.func (.yield (s.H.next + 1)) #[] #[]]++cap).toArray (b++#[.func (.yield (w.heap.size + 1)) #[] #[]]++c):=by
    have hone : ∀ y y',VR _ _ φ2 y y'→AR _ _ φ2 (first++[y]++cap).toArray (b++#[y']++c):=fun y y' hy => by
      have:=((hext12.ar hfirst).append (.one hy)).append (hext12.ar hcap)
      simpa using this
    refine hone _ _ ?_
    have hy:FR ((s.H.new (.obj (.deferred (some [])))).new (.loop (loopRec s ps asg body s.H.next))).B ((s.H.new (.obj (.deferred (some [])))).new (.loop (loopRec s ps asg body s.H.next))).live φ2 (.yield (s.H.next + 1)) (.yield (φ2 (s.H.next + 1)).b) :=
      .yield _ (by have:=hr.base; simp; omega) (by simp)
    rw [hφ2] at hy
    simp only [World.size_alloc] at hy
    exact .func _ _ _ _ _ _ hy rfl (fun i h => absurd h (by simp)) rfl (fun i h => absurd h (by simp))
  refine ⟨w.heap.size + 1,[{ target:=.collected w.heap.size,args:=#[] }],((w.alloc (.deferred (some []))).alloc (.loop { state:=.ready,pending:=none,fn,tmps:=a'.tmps,params:=ps,assign:=asg,body,defers:=w.heap.size })),{ target:=.fn (.func f) c,args:=b++#[.func (.yield (w.heap.size + 1)) #[] #[]] },((w.alloc (.deferred (some []))).alloc (.loop { state:=.ready,pending:=none,fn,tmps:=a'.tmps,params:=ps,assign:=asg,body,defers:=w.heap.size })),f,b++#[.func (.yield (w.heap.size + 1)) #[] #[]]++c,((w.alloc (.deferred (some []))).alloc (.loop { state:=.ready,pending:=none,fn,tmps:=a'.tmps,params:=ps,assign:=asg,body,defers:=w.heap.size })),
    run_enterLoop_outer fn a'.tmps ps asg body,?_,fun _ _ => trivial,?_,(fun hd => by (rw [fence_depth] at hd; cases hd)),?_⟩
  · simp [resolve,rangeCall,hb,Deferred.ofValue,eval_const]
  · simp [invoke,hcall]
  · refine (ht φ2 _ _ hr2 har).mono fun e1 w1 he => ?_
    obtain ⟨φ3,hed,hr3,hext3⟩:=he
    cases hed
    have hLlt : ((s.H.new (.obj (.deferred (some [])))).new (.loop (loopRec s ps asg body s.H.next))).live (s.H.next + 1):=.inr rfl
    have hL3 : (φ3 (s.H.next + 1)).b=w.heap.size + 1:=by rw [hext3.same _ hLlt,hφ2]; simp
    obtain ⟨k',hk1,hk2,hk3⟩:=loop_own hr3 hrec
    rw [hL3] at hk1
    have hend:=run_endLoop (P:=P) hk1 (by rw [hk2.state]; exact hst)
    refine ⟨_,_,hend,?_⟩
    have hp:=rel_putObj hr3 hrec (x:=.loop { rec2 with state:=.exhausted }) (o':=.loop { k' with state:=.exhausted })
      (.loop _ _ hk3 ⟨rfl,hk2.pending,hk2.tmps,hk2.params,hk2.assign,hk2.body,hk2.defersB,hk2.defers⟩)
    rw [hL3] at hp
    have hfin:=hp.1.drop (s.H.next + 1)
    have hall:=((hext12.trans hext3).trans hp.2).trans (Ext.drop φ3 _ _ (s.H.next + 1))
    have hrel' : Rel φ3 (H2.put (s.H.next + 1) none) (w1.putObj (w.heap.size + 1) (.loop { k' with state:=.exhausted })):=hfin.same_get (by intro m; simp only [SH.get_put]; split <;> rfl) rfl rfl rfl
    have hext' : Ext φ φ3 s.H (H2.put (s.H.next + 1) none) w (w1.putObj (w.heap.size + 1) (.loop { k' with state:=.exhausted })):=hall.same_get (by intro m; simp only [SH.get_put]; split <;> rfl) rfl rfl rfl
    have hac:AcR (H2.put (s.H.next + 1) none).B (H2.put (s.H.next + 1) none).live φ3 { s with ds:=mark s.H.next :: s.ds,H:=H2.put (s.H.next + 1) none } { a' with defers:=[{ target:=.collected w.heap.size,args:=#[] }]++a'.defers }:=by
      have h0:=hext'.acr ha
      refine ⟨h0.tmps,.cons ⟨?_,.nil⟩ h0.defers⟩
      have hlt : (H2.put (s.H.next + 1) none).live s.H.next:=hext3.live _ (.inl (.inr rfl))
      have hφ3 : (φ3 s.H.next).b=w.heap.size:=by rw [hext3.same _ (.inl (.inr rfl)),hext2.same _ (.inr rfl),hφ1]
      have:=TgR.collected (B:=(H2.put (s.H.next + 1) none).B) (N:=(H2.put (s.H.next + 1) none).live) (φ:=φ3) s.H.next (by rw [hext'.B]; exact hr.base) hlt
      rw [hφ3] at this
      exact this
    have out : ∀ e',XR (H2.put (s.H.next + 1) none).B (H2.put (s.H.next + 1) none).live φ3 e e'→Out φ s w e { s with ds:=mark s.H.next :: s.ds,H:=H2.put (s.H.next + 1) none } e' { a' with defers:=[{ target:=.collected w.heap.size,args:=#[] }]++a'.defers } (w1.putObj (w.heap.size + 1) (.loop { k' with state:=.exhausted })) :=
      fun e' hx => ⟨φ3,hx,hrel',hac,hext'⟩
    generalize w1.putObj (w.heap.size + 1) (.loop { k' with state:=.exhausted }) = W at out ⊢
    rw [hk2.pending]
    revert hj
    cases hpe:rec2.pending with
    | none => intro hj; simp only [jumpExit,Option.some.injEq] at hj; subst hj; exact out _ .normal
    | some c0 =>
      cases c0 <;> simp only [jumpExit,Option.some.injEq,reduceCtorEq,false_implies]
      case exit id => rintro rfl; exact wpIn_exit (out _ (.exit id))
      case goto l => rintro rfl; exact wpIn_goto (out _ (.goto l))
      case ret => rintro rfl; exact wpIn_ret (out _ .ret)
end
end Go.Proofs.Orl

namespace Go.Proofs.Orl
open Go

inductive Marks:SH→List Deferred→SH→Prop
  | nil {H:SH} : Marks H [] H
  | cons {H H' : SH} {n:Nat} {ds:List Deferred} : H.get n=some (.obj (.deferred (some [])))→Marks (H.put n (some (.obj (.deferred none)))) ds H'→Marks H (mark n :: ds) H'

section
variable {P:Program} {r:Option Nat} {s s1 s' : St} {e:Exit}

theorem marks_leave {φ:Ph} {H:SH} {ds:List Deferred} {H' : SH} (hm:Marks H ds H') : ∀ {w:World} (ds' : List Deferred),Rel φ H w→DLR H.B H.live φ ds ds'→
    ∀ {fn:Func} {tmps:Array Value} {R:Ending→World→Prop},(∀ w',Rel φ H' w'→Ext φ φ H H' w w'→∃ v,(results fn tmps).run P w' = .ok v w'∧R (.returned v) w')→
      LeavesInM Fence.wide 0 P fn tmps R ds' .returning w:=by
  induction hm with
  | nil =>
    intro w ds' hr hd fn tmps R h
    cases hd
    exact h w hr (.refl _ _ _)
  | @cons H H' n ds hn _ ih =>
    intro w ds' hr hd fn tmps R h
    cases hd with
    | cons hd1 hd2 =>
      rename_i d' l'
      obtain ⟨htg,hargs⟩:=hd1
      obtain ⟨o',ho1,ho2,ho3⟩:=obj_own hr hn
      have hdn:d'.target=.collected (φ n).b:=by
        revert htg
        simp only [mark]
        generalize d'.target=t
        intro htg
        cases htg; rfl
      cases ho2 with
      | deferred _ l2 hl2 =>
        cases hl2
        have htake:=run_takeDeferred (P:=P) ho1
        have hp:=rel_putObj hr hn (x:=.obj (.deferred none)) (o':=.deferred none) (.obj _ _ ho3 .deferredNone)
        refine ⟨by simp,.inl ⟨(φ n).b,_,hdn,htake,?_⟩⟩
        exact ih l' hp.1 hd2 fun w' hr' hx => h w' hr' (hp.2.trans hx)

theorem t_of_body_marks {f:FuncId} {fn:Func} {c:Code} {args:List Value} {H H' : SH} {vs:List Value} (hf:P.funcs[f]? = some fn) (hb:fn.body=some c)
    (hc:TC P none c (enterSt fn args H) e s') (he:e=.normal∨e=.ret) (hm:Marks s'.H s'.ds H') (hres:ResL P { s' with H:=H' } fn.results.toList vs):T P f args.toArray H (.returned (resOf vs)) H':=by
  intro φ w args' hr har
  refine callsIn_of_wp_marks hf hb trivial (wpIn_mono (hc φ w { tmps:=args'++Array.replicate (fn.ntmps - args'.size) undef,defers:=[] } hr (enter_rel H har) (by simp)) fun e1 a1 w1 ho => ?_)
  obtain ⟨φ1,hx,hr1,ha1,hext⟩:=ho
  have fin:LeavesInM Fence.wide 0 P fn a1.tmps (fun e' w' => ∃ φ',EdR H'.B H'.live φ' (.returned (resOf vs)) e'∧Rel φ' H' w'∧Ext φ φ' H H' w w') a1.defers .returning w1:=by
    refine marks_leave hm a1.defers hr1 ha1.defers fun w' hr' hx' => ?_
    have hac:AcR H'.B H'.live φ1 { s' with H:=H' } a1:=by
      have:=hx'.acr ha1
      exact ⟨this.tmps,this.defers⟩
    obtain ⟨v',hv,hvr⟩:=results_run (P:=P) (s:={ s' with H:=H' }) (fn:=fn) hr' hac hres
    exact ⟨v',hv,φ1,.returned _ _ hvr,hr',hext.trans hx'⟩
  rcases he with rfl | rfl
  · cases hx; exact fin
  · cases hx; exact fin

def lsub (l0 l:List (Nat × Value)):Prop:=∀ t,lk l0 t=undef∨lk l0 t=lk l t

structure SubH (H0 H:SH):Prop where
  old:H0.old=H.old
  next:H0.next=H.next
  live:H0.live=H.live
  get : ∀ n x,H0.get n=some x→H.get n=some x

theorem SubH.refl (H:SH):SubH H H:=⟨rfl,rfl,rfl,fun _ _ h => h⟩
theorem SubH.B {H0 H:SH} (h:SubH H0 H):H0.B=H.B:=by unfold SH.B; rw [h.old]

theorem Rel.sub {φ:Ph} {H0 H:SH} {w:World} (h:SubH H0 H) (hr:Rel φ H w):Rel φ H0 w :=
  have hs : ∀ n,(H0.get n).isSome→(H.get n).isSome:=fun n hn => by
    obtain ⟨x,hx⟩:=Option.isSome_iff_exists.1 hn
    simp [h.get n x hx]
  ⟨fun b hb => by rw [h.old]; exact hr.old b (h.B ▸ hb),by rw [h.B,h.next]; exact hr.base,by rw [h.B]; exact hr.size,fun n hn => by rw [h.B,h.live]; exact hr.dom n (hs n hn),fun n hn => by rw [h.next]; exact hr.lt n (h.live ▸ hn),
    fun n x hx => by rw [h.B,h.live]; exact hr.own n x (h.get n x hx),fun n m hn hm => hr.inj n m (hs n hn) (hs m hm)⟩

theorem Ext.sub {φ φ' : Ph} {H0 H H' : SH} {w w' : World} (h:SubH H0 H) (x:Ext φ φ' H0 H' w w'):Ext φ φ' H H' w w' :=
  have hs : ∀ n,(H0.get n).isSome→(H.get n).isSome:=fun n hn => by
    obtain ⟨x,hx⟩:=Option.isSome_iff_exists.1 hn
    simp [h.get n x hx]
  ⟨fun n hn => x.same n (h.live ▸ hn),by rw [← h.next]; exact x.next,by rw [← h.live]; exact x.live,x.old.trans h.old,x.size,fun b hb hn => x.keep b hb fun n hn' => hn n (hs n hn'),fun n hn => (x.from_ n hn).imp id fun ⟨m,hm,e⟩ => ⟨m,hs m hm,e⟩,x.out,x.os⟩

theorem AcR.sub {B:Nat} {N:Nat→Prop} {φ:Ph} {s0 s:St} {a' : Act} (hg:lsub s0.g s.g) (hn:s0.n=s.n) (hd:s0.ds=s.ds) (h:AcR B N φ s a'):AcR B N φ s0 a' :=
  ⟨⟨by rw [hn]; exact h.tmps.size,fun t => by
    rcases hg t with e | e
    · exact .inl e
    · rw [e]; exact h.tmps.val t⟩,by rw [hd]; exact h.defers⟩

theorem tc_sub {c:Code} {s0:St} (hg:lsub s0.g s.g) (hn:s0.n=s.n) (hd:s0.ds=s.ds) (hH:SubH s0.H s.H) (h:TC P r c s0 e s'):TC P r c s e s':=fun φ w a' hr ha hl => by
  have ha0:AcR s0.H.B s0.H.live φ s0 a':=by rw [hH.B,hH.live]; exact ha.sub hg hn hd
  refine wpIn_mono (h φ w a' (hr.sub hH) ha0 (by rw [hH.live]; exact hl)) fun e1 a1 w1 ho => ?_
  obtain ⟨φ1,h1,h2,h3,h4⟩:=ho
  exact ⟨φ1,h1,h2,h3,h4.sub hH⟩

theorem to_sub {ops:Array Oper} {l:List Nat} {s0:St} (hg:lsub s0.g s.g) (hn:s0.n=s.n) (hd:s0.ds=s.ds) (hH:SubH s0.H s.H) (h:TO P r ops l s0 e s'):TO P r ops l s e s':=fun φ w a' hr ha hl => by
  have ha0:AcR s0.H.B s0.H.live φ s0 a':=by rw [hH.B,hH.live]; exact ha.sub hg hn hd
  refine wpOps_mono (fun e1 a1 w1 ho => ?_) _ _ _ (h φ w a' (hr.sub hH) ha0 (by rw [hH.live]; exact hl))
  obtain ⟨φ1,h1,h2,h3,h4⟩:=ho
  exact ⟨φ1,h1,h2,h3,h4.sub hH⟩

theorem T.sub {f:FuncId} {args:Array Value} {H0 H H' : SH} {ed:Ending} (hH:SubH H0 H) (h:T P f args H0 ed H'):T P f args H ed H':=fun φ w args' hr har =>
  (h φ w args' (hr.sub hH) (by rw [hH.B,hH.live]; exact har)).mono fun e1 w1 ⟨φ1,h1,h2,h3⟩ => ⟨φ1,h1,h2,h3.sub hH⟩

theorem T.less {f:FuncId} {args:Array Value} {H H' H1:SH} {ed:Ending} (hH:SubH H1 H') (h:T P f args H ed H'):T P f args H ed H1:=fun φ w args' hr har =>
  (h φ w args' hr har).mono fun e1 w1 ⟨φ1,h1,h2,h3⟩ => ⟨φ1,by rw [hH.B,hH.live]; exact h1,h2.sub hH,⟨h3.same,by rw [hH.next]; exact h3.next,by rw [hH.live]; exact h3.live,hH.old.trans h3.old,h3.size,h3.keep,fun n hn => h3.from_ n (by
    obtain ⟨x,hx⟩:=Option.isSome_iff_exists.1 hn
    simp [hH.get n x hx]),h3.out,h3.os⟩⟩

def W (P:Program) (r:Option Nat) (c:Code) (Q:Exit→St→Prop) (s:St):Prop:=∃ e s',TC P r c s e s'∧Q e s'
def WO (P:Program) (r:Option Nat) (ops:Array Oper) (l:List Nat) (Q:Exit→St→Prop) (s:St):Prop:=∃ e s',TO P r ops l s e s'∧Q e s'
def WC (P:Program) (f:FuncId) (args:List Value) (H:SH) (Q:Value→SH→Prop):Prop:=∃ v H',T P f args.toArray H (.returned v) H'∧Q v H'
def WV (P:Program) (fv:Value) (args:List Value) (H:SH) (Q:Value→SH→Prop):Prop:=∃ v H',CallV P fv args H (.returned v) H'∧Q v H'

theorem WC.mono {f:FuncId} {args:List Value} {H:SH} {Q Q' : Value→SH→Prop} (h:WC P f args H Q) (hq : ∀ v H',Q v H'→Q' v H'):WC P f args H Q':=let ⟨v,H',t,q⟩:=h; ⟨v,H',t,hq _ _ q⟩
theorem WV.mono {f:Value} {args:List Value} {H:SH} {Q Q' : Value→SH→Prop} (h:WV P f args H Q) (hq : ∀ v H',Q v H'→Q' v H'):WV P f args H Q':=let ⟨v,H',t,q⟩:=h; ⟨v,H',t,hq _ _ q⟩

def thenQ (K:St→Prop) (Q:Exit→St→Prop):Exit→St→Prop
  | .normal,s => K s
  | e,s => Q e s

theorem w_skip {Q:Exit→St→Prop} (h:Q .normal s):W P r .skip Q s:=⟨_,_,tc_skip,h⟩
theorem w_exit {id:Nat} {Q:Exit→St→Prop} (h:Q (.exit id) s):W P r (.exit id) Q s:=⟨_,_,tc_exit id,h⟩
theorem w_ret {Q:Exit→St→Prop} (h:Q .ret s):W P r .ret Q s:=⟨_,_,tc_ret,h⟩
theorem w_seq {x y:Code} {Q:Exit→St→Prop} (h:W P r x (thenQ (W P r y Q) Q) s):W P r (.seq x y) Q s:=by
  obtain ⟨e,s1,h1,h2⟩:=h
  by_cases he:e=.normal
  · subst he
    obtain ⟨e2,s2,h3,h4⟩:=h2
    exact ⟨e2,s2,tc_seq h1 h3,h4⟩
  · refine ⟨e,s1,tc_seq_out h1 he,?_⟩
    cases e <;> first | exact absurd rfl he | exact h2
theorem w_cond {c:Operand} {x y:Code} {t:Bool} {Q:Exit→St→Prop} (hc:s.ev c=.bool t) (hok:okO c=true) (h1:t=true→W P r x Q s) (h2:t=false→W P r y Q s):W P r (.cond c x y) Q s:=by
  cases t with
  | true => obtain ⟨e,s1,g1,g2⟩:=h1 rfl; exact ⟨e,s1,tc_cond hc hok g1,g2⟩
  | false => obtain ⟨e,s1,g1,g2⟩:=h2 rfl; exact ⟨e,s1,tc_cond hc hok g1,g2⟩
theorem w_block {id:Nat} {c:Code} {Q:Exit→St→Prop} (h:W P r c (fun e s' => Q (inBlk id e) s') s):W P r (.block id c) Q s:=by
  obtain ⟨e,s1,g1,g2⟩:=h; exact ⟨_,s1,tc_block g1,g2⟩
theorem w_loop {c:Code} {Q:Exit→St→Prop} (I:Nat→St→Prop) {n:Nat} (h0:I n s) (round : ∀ n s,I n s→W P r c (thenQ (fun s' => ∃ m,m < n∧I m s') Q) s):W P r (.loop c) Q s:=by
  have key : ∀ n s,I n s→∃ e s',Rounds P r c s e s'∧Q e s':=by
    intro n
    induction n using Nat.strongRecOn with
    | _ n ih =>
      intro s hI
      obtain ⟨e,s1,g1,g2⟩:=round n s hI
      by_cases he:e=.normal
      · subst he
        obtain ⟨m,hm,hI'⟩:=g2
        obtain ⟨e2,s2,k1,k2⟩:=ih m hm s1 hI'
        exact ⟨e2,s2,.more g1 k1,k2⟩
      · refine ⟨e,s1,.last g1 he,?_⟩
        cases e <;> first | exact absurd rfl he | exact g2
  obtain ⟨e,s1,g1,g2⟩:=key n s h0
  exact ⟨e,s1,tc_loop g1,g2⟩
theorem w_region {id:Nat} {ops:Array Oper} {Q:Exit→St→Prop} (h:WO P r ops (List.range ops.size) Q s):W P r (.region id ops false) Q s:=by
  obtain ⟨e,s1,g1,g2⟩:=h; exact ⟨e,s1,tc_region g1,g2⟩
theorem w_sub {c:Code} {Q:Exit→St→Prop} {s0:St} (hg:lsub s0.g s.g) (hn:s0.n=s.n) (hd:s0.ds=s.ds) (hH:SubH s0.H s.H) (h:W P r c Q s0):W P r c Q s:=by
  obtain ⟨e,s1,g1,g2⟩:=h; exact ⟨e,s1,tc_sub hg hn hd hH g1,g2⟩
theorem wo_nil {ops:Array Oper} {Q:Exit→St→Prop} (h:Q .normal s):WO P r ops [] Q s:=⟨_,_,to_nil,h⟩
theorem wo_skip {ops:Array Oper} {i:Nat} {l:List Nat} {o:Oper} {Q:Exit→St→Prop} (ho:ops[i]? = some o) (hw:wants ops s o false) (hd : ∀ k,o.dst=some k→k < s.n)
    (h:WO P r ops l Q (s.put o.dst undef s.H)):WO P r ops (i :: l) Q s:=by
  obtain ⟨e,s1,g1,g2⟩:=h; exact ⟨e,s1,to_skip ho hw hd g1,g2⟩
theorem wo_val {ops:Array Oper} {i:Nat} {l:List Nat} {o:Oper} {v:Value} {H1:SH} {Q:Exit→St→Prop} (ho:ops[i]? = some o) (hw:wants ops s o true) (hd : ∀ k,o.dst=some k→k < s.n)
    (hv:OpV P o s v H1) (h:WO P r ops l Q (s.put o.dst v H1)):WO P r ops (i :: l) Q s:=by
  obtain ⟨e,s1,g1,g2⟩:=h; exact ⟨e,s1,to_val ho hw hd hv g1,g2⟩
theorem wo_callv {ops:Array Oper} {i:Nat} {l:List Nat} {o:Oper} {fx:Operand} {xs:List Operand} {vs:List Value} {ts:Array TypeId} {fv:Value} {Q:Exit→St→Prop} (ho:ops[i]? = some o) (hw:wants ops s o true) (hd : ∀ k,o.dst=some k→k < s.n)
    (hop:o.op=.call { callee:=.value fx,args:=xs.toArray,argTypes:=ts }) (hf:okO fx=true) (hxs:Evs s xs vs) (hfv:s.ev fx=fv)
    (ht:WV P fv vs s.H fun v H1 => WO P r ops l Q (s.put o.dst v H1)):WO P r ops (i :: l) Q s:=by
  obtain ⟨v,H1,t,e,s1,g1,g2⟩:=ht
  exact ⟨e,s1,to_callv ho hw hd hop hf hxs hfv t g1,g2⟩
theorem wv_func {f:FuncId} {first cap args:List Value} {H:SH} {Q:Value→SH→Prop} (hcall : ∀ args w,(callFunc f args).run P w=.ok (.enter f args) w) (h:WC P f (first++args++cap) H Q) :
    WV P (.func (.func f) first.toArray cap.toArray) args H Q:=by
  obtain ⟨v,H',t,q⟩:=h
  exact ⟨v,H',.func hcall t,q⟩

theorem wc_of_body {f:FuncId} {fn:Func} {c:Code} {args:List Value} {H:SH} {Q:Value→SH→Prop} (hf:P.funcs[f]? = some fn) (hb:fn.body=some c)
    (h:W P none c (fun e s' => (e=.normal∨e=.ret)∧s'.ds=[]∧∃ vs,ResL P s' fn.results.toList vs∧Q (resOf vs) s'.H) (enterSt fn args H)):WC P f args H Q:=by
  obtain ⟨e,s',g1,he,hd,vs,hres,hq⟩:=h
  exact ⟨_,_,t_of_body hf hb g1 he hd hres,hq⟩
theorem wc_of_body_marks {f:FuncId} {fn:Func} {c:Code} {args:List Value} {H:SH} {Q:Value→SH→Prop} (hf:P.funcs[f]? = some fn) (hb:fn.body=some c)
    (h:W P none c (fun e s' => (e=.normal∨e=.ret)∧∃ H' vs,Marks s'.H s'.ds H'∧ResL P { s' with H:=H' } fn.results.toList vs∧Q (resOf vs) H') (enterSt fn args H)):WC P f args H Q:=by
  obtain ⟨e,s',g1,he,H',vs,hm,hres,hq⟩:=h
  exact ⟨_,_,t_of_body_marks hf hb g1 he hm hres,hq⟩
theorem WC.less {f:FuncId} {args:List Value} {H:SH} {Q:Value→SH→Prop} (h:WC P f args H fun v H' => ∃ H1,SubH H1 H'∧Q v H1):WC P f args H Q:=by
  obtain ⟨v,H',t,H1,hs,q⟩:=h
  exact ⟨v,H1,t.less hs,q⟩
end
end Go.Proofs.Orl

namespace Go.Proofs.Orl
open Go

def wr (n:Int):Int:=IntKind.i64.wrap n

theorem wr_spec (n:Int) : (-9223372036854775808 ≤ n∧n ≤ 9223372036854775807→wr n=n)∧-9223372036854775808 ≤ wr n∧wr n ≤ 9223372036854775807:=by
  unfold wr IntKind.wrap
  simp only [IntKind.bits,IntKind.signed,Bool.true_and]
  refine ⟨fun h => ?_,?_,?_⟩ <;> split <;> simp_all <;> omega

theorem wr_id {n:Int} (h1 : -9223372036854775808 ≤ n) (h2:n ≤ 9223372036854775807):wr n=n:=(wr_spec n).1 ⟨h1,h2⟩

def ibin (op:BinOp) (k:IntKind) (a b:Int):Option Value :=
  match op with
  | .add => some (.int k (k.wrap (a + b)))
  | .sub => some (.int k (k.wrap (a - b)))
  | .mul => some (.int k (k.wrap (a * b)))
  | .quo => if b=0 then none else some (.int k (k.wrap (a.tdiv b)))
  | .rem => if b=0 then none else some (.int k (a.tmod b))
  | .and => some (.int k (k.wrap (BitVec.ofInt k.bits a &&& BitVec.ofInt k.bits b).toNat))
  | .or => some (.int k (k.wrap (BitVec.ofInt k.bits a ||| BitVec.ofInt k.bits b).toNat))
  | .xor => some (.int k (k.wrap (BitVec.ofInt k.bits a ^^^ BitVec.ofInt k.bits b).toNat))
  | .andNot => some (.int k (k.wrap (BitVec.ofInt k.bits a &&& ~~~BitVec.ofInt k.bits b).toNat))
  | .eql => some (.bool (a == b))
  | .neq => some (.bool (a != b))
  | .lss => some (.bool (decide (a < b)))
  | .leq => some (.bool (decide (a ≤ b)))
  | .gtr => some (.bool (decide (a > b)))
  | .geq => some (.bool (decide (a ≥ b)))
  | .shl => none
  | .shr => none

section
variable {P:Program} {o:Oper} {s:St}

theorem opv_bin {op:BinOp} {t yt:TypeId} {x y:Operand} {k:IntKind} {a b:Int} {v:Value} (ho:o.op=.binOp op t x y yt) (hx:okO x=true) (hy:okO y=true) (hxv:s.ev x=.int k a) (hyv:s.ev y=.int k b) (hv:ibin op k a b=some v) :
    OpV P o s v s.H:=by
  have hsh:op ≠ .shl∧op ≠ .shr:=⟨by rintro rfl; simp [ibin] at hv,by rintro rfl; simp [ibin] at hv⟩
  have hrig : ∃ u,v=u∧(∀ B N φ,VR B N φ v v):=⟨v,rfl,fun B N φ => by
    revert hv; cases op <;> simp only [ibin] <;> (try split) <;> intro hv <;> cases hv <;> first | exact .int _ _ | exact .bool _⟩
  refine opv_pure (by simp [ho]) fun φ w a' _ ha => ⟨v,?_,hrig.choose_spec.2 _ _ _⟩
  have e1:=(ha.ev hx hxv (by simp [undef])).int_inv
  have e2:=(ha.ev hy hyv (by simp [undef])).int_inv
  simp only [execOp,ho,e1,e2]
  revert hv
  cases op <;> simp only [ibin] <;> first | (exact absurd rfl hsh.1) | (exact absurd rfl hsh.2) | skip
  all_goals (try split)
  all_goals intro hv
  all_goals first | (cases hv; done) | skip
  all_goals cases hv
  all_goals simp_all [eqGuard,binOp,Op.intArith,Op.intDiv,Op.intBits,Op.intCmp]

theorem opv_shift {op:BinOp} {t yt:TypeId} {x y:Operand} {k yk:IntKind} {a b:Int} {v:Value} (ho:o.op=.binOp op t x y yt) (hx:okO x=true) (hy:okO y=true) (hxv:s.ev x=.int k a) (hyv:s.ev y=.int yk b) (h0:0 ≤ b)
    (hv : (op=.shl∧v=.int k (k.wrap (a * 2 ^ (min b.toNat k.bits))))∨(op=.shr∧v=.int k (a.fdiv (2 ^ (min b.toNat k.bits))))) :
    OpV P o s v s.H:=by
  have h0' : ¬ b < 0:=by omega
  rcases hv with ⟨rfl,rfl⟩ | ⟨rfl,rfl⟩
  · refine opv_pure (by simp [ho]) fun φ w a' _ ha => ⟨_,?_,.int _ _⟩
    have e1:=(ha.ev hx hxv (by simp [undef])).int_inv
    have e2:=(ha.ev hy hyv (by simp [undef])).int_inv
    simp [execOp,ho,e1,e2,eqGuard,binOp,Op.shift,h0']
  · refine opv_pure (by simp [ho]) fun φ w a' _ ha => ⟨_,?_,.int _ _⟩
    have e1:=(ha.ev hx hxv (by simp [undef])).int_inv
    have e2:=(ha.ev hy hyv (by simp [undef])).int_inv
    simp [execOp,ho,e1,e2,eqGuard,binOp,Op.shift,h0']

theorem opv_not {t:TypeId} {x:Operand} {b:Bool} (ho:o.op=.unOp .not t x) (hx:okO x=true) (hxv:s.ev x=.bool b):OpV P o s (.bool !b) s.H:=by
  refine opv_pure (by simp [ho]) fun φ w a' _ ha => ⟨_,?_,.bool _⟩
  have e1:=(ha.ev hx hxv (by simp [undef])).bool_inv
  simp [execOp,ho,e1,Op.unary]

theorem opv_neg {t:TypeId} {x:Operand} {k:IntKind} {a:Int} (ho:o.op=.unOp .neg t x) (hx:okO x=true) (hxv:s.ev x=.int k a):OpV P o s (.int k (k.wrap (0 - a))) s.H:=by
  refine opv_pure (by simp [ho]) fun φ w a' _ ha => ⟨_,?_,.int _ _⟩
  have e1:=(ha.ev hx hxv (by simp [undef])).int_inv
  simp [execOp,ho,e1,Op.unary,Op.intArith]

theorem opv_min {x y:Operand} {ts:Array TypeId} {k:IntKind} {a b:Int} (ho:o.op=.call { callee:=.builtin .min,args:=#[x,y],argTypes:=ts }) (hx:okO x=true) (hy:okO y=true) (hxv:s.ev x=.int k a) (hyv:s.ev y=.int k b) :
    OpV P o s (.int k (if b < a then b else a)) s.H:=by
  refine opv_pure (by simp [ho]) fun φ w a' _ ha => ⟨_,?_,.int _ _⟩
  have e1:=(ha.ev hx hxv (by simp [undef])).int_inv
  have e2:=(ha.ev hy hyv (by simp [undef])).int_inv
  obtain ⟨cs,hcs⟩:=builtin_exec ho a'.eval
  rw [hcs]
  simp [builtin,Builtin.min_,Builtin.min2,e1,e2]

theorem opv_max {x y:Operand} {ts:Array TypeId} {k:IntKind} {a b:Int} (ho:o.op=.call { callee:=.builtin .max,args:=#[x,y],argTypes:=ts }) (hx:okO x=true) (hy:okO y=true) (hxv:s.ev x=.int k a) (hyv:s.ev y=.int k b) :
    OpV P o s (.int k (if b > a then b else a)) s.H:=by
  refine opv_pure (by simp [ho]) fun φ w a' _ ha => ⟨_,?_,.int _ _⟩
  have e1:=(ha.ev hx hxv (by simp [undef])).int_inv
  have e2:=(ha.ev hy hyv (by simp [undef])).int_inv
  obtain ⟨cs,hcs⟩:=builtin_exec ho a'.eval
  rw [hcs]
  simp [builtin,Builtin.max_,Builtin.max2,e1,e2]

theorem opv_convInt {t u:TypeId} {x:Operand} {k k' : IntKind} {dt:TypeDesc} {a:Int} (ho:o.op=.convert t u x) (hx:okO x=true) (hxv:s.ev x=.int k a) (ht:P.underlying t=some dt) (hu:P.underlying u=some (.int k')) :
    OpV P o s (.int k' (k'.wrap a)) s.H:=by
  refine opv_pure (by simp [ho]) fun φ w a' _ ha => ⟨_,?_,.int _ _⟩
  have e1:=(ha.ev hx hxv (by simp [undef])).int_inv
  simp [execOp,ho,e1,convert,run_underlying ht,run_underlying hu,Conv.intToInt]

theorem opv_eqStr {t yt:TypeId} {x y:Operand} {a b:ByteArray} (ho:o.op=.binOp .eql t x y yt) (hx:okO x=true) (hy:okO y=true) (hxv:s.ev x=.string a) (hyv:s.ev y=.string b):OpV P o s (.bool (a.toList == b.toList)) s.H:=by
  refine opv_pure (by simp [ho]) fun φ w a' _ ha => ⟨_,?_,.bool _⟩
  have e1:=(ha.ev hx hxv (by simp [undef])).string_inv
  have e2:=(ha.ev hy hyv (by simp [undef])).string_inv
  simp [execOp,ho,e1,e2,eqGuard,binOp,Op.stringOp]
theorem opv_neStr {t yt:TypeId} {x y:Operand} {a b:ByteArray} (ho:o.op=.binOp .neq t x y yt) (hx:okO x=true) (hy:okO y=true) (hxv:s.ev x=.string a) (hyv:s.ev y=.string b):OpV P o s (.bool (!(a.toList == b.toList))) s.H:=by
  refine opv_pure (by simp [ho]) fun φ w a' _ ha => ⟨_,?_,.bool _⟩
  have e1:=(ha.ev hx hxv (by simp [undef])).string_inv
  have e2:=(ha.ev hy hyv (by simp [undef])).string_inv
  simp [execOp,ho,e1,e2,eqGuard,binOp,Op.stringOp]
end
end Go.Proofs.Orl
namespace Go.Proofs.Orl
open Go
def dOk (o:Oper) (n:Nat):Bool:=match o.dst with | none => true | some k => Nat.blt k n
theorem dOk_spec {o:Oper} {n:Nat} (h:dOk o n=true) : ∀ k,o.dst=some k→k < n:=fun k hk => by
  simp only [dOk,hk] at h
  exact Nat.le_of_ble_eq_true h

section
variable {P:Program} {r:Option Nat} {s:St} {ops:Array Oper} {i:Nat} {l:List Nat} {o:Oper} {Q:Exit→St→Prop}
theorem sv {v:Value} {H1:SH} {s1:St} (ho:ops[i]? = some o) (hw:wants ops s o true) (hd:dOk o s.n=true) (hv:OpV P o s v H1) (hs:s.put o.dst v H1=s1) (h:WO P r ops l Q s1):WO P r ops (i :: l) Q s :=
  wo_val ho hw (dOk_spec hd) hv (hs ▸ h)
theorem ss {s1:St} (ho:ops[i]? = some o) (hw:wants ops s o false) (hd:dOk o s.n=true) (hs:s.put o.dst undef s.H=s1) (h:WO P r ops l Q s1):WO P r ops (i :: l) Q s :=
  wo_skip ho hw (dOk_spec hd) (hs ▸ h)
theorem sc {fx:Operand} {xs:List Operand} {vs:List Value} {ts:Array TypeId} {fv:Value} (ho:ops[i]? = some o) (hw:wants ops s o true) (hd:dOk o s.n=true)
    (hop:o.op=.call { callee:=.value fx,args:=xs.toArray,argTypes:=ts }) (hf:okO fx=true) (hxs:Evs s xs vs) (hfv:s.ev fx=fv)
    (ht:WV P fv vs s.H fun v H1 => WO P r ops l Q (s.put o.dst v H1)):WO P r ops (i :: l) Q s:=wo_callv ho hw (dOk_spec hd) hop hf hxs hfv ht
end
end Go.Proofs.Orl

namespace Go.Proofs.Orl
open Go

structure Keep (H H' : SH):Prop where
  old:H'.old=H.old
  next:H.next ≤ H'.next
  get : ∀ m,m < H.next→H'.get m=H.get m
  live : ∀ m,H.live m→H'.live m
  new : ∀ m,H'.live m→H.live m∨H.next ≤ m
theorem Keep.refl (H:SH):Keep H H:=⟨rfl,Nat.le_refl _,fun _ _ => rfl,fun _ h => h,fun _ h => .inl h⟩
theorem Keep.trans {H H' H'' : SH} (a:Keep H H') (b:Keep H' H''):Keep H H'' :=
  ⟨b.old.trans a.old,Nat.le_trans a.next b.next,fun m hm => (b.get m (Nat.lt_of_lt_of_le hm a.next)).trans (a.get m hm),fun m h => b.live m (a.live m h),fun m h => by
    rcases b.new m h with h | h
    · exact a.new m h
    · exact .inr (Nat.le_trans a.next h)⟩
theorem Keep.B {H H' : SH} (a:Keep H H'):H'.B=H.B:=by unfold SH.B; rw [a.old]

structure KeepX (X:Nat→Prop) (H H' : SH):Prop where
  old:H'.old=H.old
  next:H.next ≤ H'.next
  get : ∀ m,m < H.next→¬ X m→H'.get m=H.get m
  live : ∀ m,H.live m→H'.live m
  new : ∀ m,H'.live m→H.live m∨H.next ≤ m
theorem KeepX.B {X:Nat→Prop} {H H' : SH} (a:KeepX X H H'):H'.B=H.B:=by unfold SH.B; rw [a.old]
theorem KeepX.refl (X:Nat→Prop) (H:SH):KeepX X H H:=⟨rfl,Nat.le_refl _,fun _ _ _ => rfl,fun _ h => h,fun _ h => .inl h⟩
theorem KeepX.trans {X Y:Nat→Prop} {H H' H'' : SH} (a:KeepX X H H') (b:KeepX Y H' H'') (h : ∀ m,Y m→X m∨H.next ≤ m):KeepX X H H'' :=
  ⟨b.old.trans a.old,Nat.le_trans a.next b.next,fun m hm hx => (b.get m (Nat.lt_of_lt_of_le hm a.next) fun hy => (h m hy).elim hx fun h' => by omega).trans (a.get m hm hx),fun m h => b.live m (a.live m h),fun m h => by
    rcases b.new m h with h | h
    · exact a.new m h
    · exact .inr (Nat.le_trans a.next h)⟩
theorem Keep.x {H H' : SH} (a:Keep H H') (X:Nat→Prop):KeepX X H H':=⟨a.old,a.next,fun m hm _ => a.get m hm,a.live,a.new⟩
theorem KeepX.k {X:Nat→Prop} {H H' : SH} (a:KeepX X H H') (h : ∀ m,X m→H.next ≤ m):Keep H H':=⟨a.old,a.next,fun m hm => a.get m hm fun hx => by have:=h m hx; omega,a.live,a.new⟩
theorem KeepX.keep {X:Nat→Prop} {H H' H'' : SH} (a:KeepX X H H') (b:Keep H' H''):KeepX X H H'':=a.trans (b.x fun _ => False) fun _ h => h.elim
theorem KeepX.weak {X Y:Nat→Prop} {H H' : SH} (a:KeepX X H H') (h : ∀ m,X m→Y m):KeepX Y H H':=⟨a.old,a.next,fun m hm hy => a.get m hm fun hx => hy (h m hx),a.live,a.new⟩

structure NewF (H:SH) (x:SBlk) (H1:SH):Prop where
  old:H1.old=H.old
  next:H1.next=H.next + 1
  blk:H1.get H.next=some x
  get : ∀ m,m ≠ H.next→H1.get m=H.get m
  live : ∀ m,H1.live m ↔ H.live m∨m=H.next
structure PutF (H:SH) (n:Nat) (x:Option SBlk) (H1:SH):Prop where
  old:H1.old=H.old
  next:H1.next=H.next
  blk:H1.get n=x
  get : ∀ m,m ≠ n→H1.get m=H.get m
  live : ∀ m,H1.live m ↔ H.live m
structure AppF (H:SH) (n:Nat) (x:SBlk) (H1:SH):Prop where
  old:H1.old=H.old
  next:H1.next=H.next + 1
  blk:H1.get H.next=some x
  gone:n < H.next→H1.get n=none
  get : ∀ m,m ≠ H.next→m ≠ n→H1.get m=H.get m
  live : ∀ m,H1.live m ↔ H.live m∨m=H.next
theorem newF (H:SH) (x:SBlk):NewF H x (H.new x):=⟨rfl,rfl,by simp,fun m hm => by simp [hm],fun m => Iff.rfl⟩
theorem putF (H:SH) (n:Nat) (x:Option SBlk):PutF H n x (H.put n x):=⟨rfl,rfl,by simp,fun m hm => by simp [hm],fun m => Iff.rfl⟩
theorem appF (H:SH) (n:Nat) (x:SBlk):AppF H n x ((H.put n none).new x):=⟨rfl,rfl,by simp,fun h => by simp [Nat.ne_of_lt h],fun m hm hn => by simp [hm,hn],fun m => Iff.rfl⟩

theorem lsub_nil (l:List (Nat × Value)):lsub [] l:=fun _ => .inl rfl
theorem lsub_cons {l0 l:List (Nat × Value)} {k:Nat} {v:Value} (h:lk l k=v) (h0:lsub l0 l):lsub ((k,v) :: l0) l:=fun t => by
  rw [lk_cons]
  by_cases e:k=t
  · subst e; simp [h]
  · simpa [e] using h0 t

structure Sub (s0 s:St):Prop where
  g:lsub s0.g s.g
  n:s0.n=s.n
  ds:s0.ds=s.ds
  H:SubH s0.H s.H

section
variable {P:Program} {r:Option Nat} {s s0:St} {c:Code} {Q:Exit→St→Prop} {ops:Array Oper} {l:List Nat}
theorem wonorm {g:List (Nat × Value)} {n:Nat} {ds:List Deferred} {H:SH} (hg:lsub g s.g) (hn:n=s.n) (hd:ds=s.ds) (hH:H=s.H) (h:WO P r ops l Q ⟨g,n,ds,H⟩):WO P r ops l Q s:=by
  obtain ⟨e,s',h1,h2⟩:=h
  exact ⟨e,s',to_sub (s0:=⟨g,n,ds,H⟩) hg hn hd (by subst hH; exact .refl _) h1,h2⟩
theorem w_loopS (I:Nat→St→Prop) {n:Nat} (h0 : ∃ s0,Sub s0 s∧I n s0) (round : ∀ n s,I n s→W P r c (thenQ (fun s' => ∃ m,m < n∧∃ s0,Sub s0 s'∧I m s0) Q) s):W P r (.loop c) Q s :=
  w_loop (fun n s => ∃ s0,Sub s0 s∧I n s0) h0 fun n s ⟨s0,hs,hI⟩ => w_sub hs.g hs.n hs.ds hs.H (round n s0 hI)
theorem tq_n {K:St→Prop} (h:K s):thenQ K Q .normal s:=h
theorem tq_e {K:St→Prop} {id:Nat} (h:Q (.exit id) s):thenQ K Q (.exit id) s:=h
theorem q_eq {e e' : Exit} (he:e=e') (h:Q e' s):Q e s:=he ▸ h

theorem wv_f0 {f:FuncId} {args:List Value} {H:SH} {Q:Value→SH→Prop} (hcall : ∀ args w,(callFunc f args).run P w=.ok (.enter f args) w) (h:WC P f args H Q):WV P (.func (.func f) #[] #[]) args H Q :=
  wv_func (first:=[]) (cap:=[]) hcall (by simpa using h)
theorem wv_fc {f:FuncId} {args cap:List Value} {H:SH} {Q:Value→SH→Prop} (hcall : ∀ args w,(callFunc f args).run P w=.ok (.enter f args) w) (h:WC P f (args++cap) H Q):WV P (.func (.func f) #[] cap.toArray) args H Q :=
  wv_func (first:=[]) (cap:=cap) hcall (by simpa using h)
theorem cmpT {op:BinOp} {k:IntKind} {a b:Int} {p:Prop} [Decidable p] (e:ibin op k a b=some (.bool (decide p))) (h:p):ibin op k a b=some (.bool true):=by rw [e,decide_eq_true h]
theorem cmpF {op:BinOp} {k:IntKind} {a b:Int} {p:Prop} [Decidable p] (e:ibin op k a b=some (.bool (decide p))) (h : ¬ p):ibin op k a b=some (.bool false):=by rw [e,decide_eq_false h]
theorem neF {k:IntKind} {a b:Int} (h:a=b):ibin .neq k a b=some (.bool false):=by simp [ibin,h]
end

def Rd (H:SH) (n k:Nat) (xs:Nat→Value) (m:Nat):Prop :=
  (n < H.B∧∃ c e fr,H.old[n]? = some (.cells c e fr)∧k + m ≤ c.size∧∀ i,i < m→c.getD (k + i) undef=xs i∧OldV H.B (xs i))∨
  (H.B ≤ n∧n < H.next∧∃ c e,H.get n=some (.row c e)∧k + m ≤ c.size∧∀ i,i < m→c.getD (k + i) undef=xs i)

theorem Rd.keep {H H' : SH} (a:Keep H H') {n k m:Nat} {xs:Nat→Value} (h:Rd H n k xs m):Rd H' n k xs m:=by
  rcases h with ⟨h1,c,e,fr,h2,h3,h4⟩ | ⟨h0,h1,c,e,h2,h3,h4⟩
  · exact .inl ⟨by rw [a.B]; exact h1,c,e,fr,by rw [a.old]; exact h2,h3,fun i hi => by rw [a.B]; exact h4 i hi⟩
  · exact .inr ⟨by rw [a.B]; exact h0,Nat.lt_of_lt_of_le h1 a.next,c,e,by rw [a.get n h1]; exact h2,h3,h4⟩

theorem Rd.sub {H:SH} {n k m:Nat} {xs:Nat→Value} (h:Rd H n k xs m) {i z:Nat} (hi:i + z ≤ m):Rd H n (k + i) (fun j => xs (i + j)) z:=by
  rcases h with ⟨h1,c,e,fr,h2,h3,h4⟩ | ⟨h0,h1,c,e,h2,h3,h4⟩
  · exact .inl ⟨h1,c,e,fr,h2,by omega,fun j hj => by rw [Nat.add_assoc]; exact h4 (i + j) (by omega)⟩
  · exact .inr ⟨h0,h1,c,e,h2,by omega,fun j hj => by rw [Nat.add_assoc]; exact h4 (i + j) (by omega)⟩

theorem opv_loadR {P:Program} {o:Oper} {s:St} {t:TypeId} {x:Operand} {n k m:Nat} {b:Bool} {xs:Nat→Value} {v:Value} (ho:o.op=.load t x) (hx:okO x=true) (hv:s.ev x=.pointer (some ⟨n,k,none⟩))
    (ha:aggT P t=some b) (hs:szT P t=some m) (hr:Rd s.H n k xs m) (hb:b=true∨m=1) (he : (if b then Value.agg ((List.range m).map xs).toArray else xs 0) = v):OpV P o s v s.H:=by
  have key : ∀ c:Array Value,k + m ≤ c.size→(∀ i,i < m→c.getD (k + i) undef=xs i)→ldV b c k m=v:=fun c h1 h2 => by
    rw [← he]
    unfold ldV
    cases b with
    | true =>
      simp only [if_true]
      congr 1
      apply Array.ext
      · simp; omega
      · intro i h3 h4
        have hi:i < m:=by simpa using h4
        have:=h2 i hi
        simp only [Array.getElem_extract,List.getElem_toArray,List.getElem_map,List.getElem_range]
        rw [← this]
        simp [Array.getD,show k + i < c.size by omega]
    | false =>
      have:m=1:=by simpa using hb
      have h:=h2 0 (by omega)
      simpa using h
  rcases hr with ⟨h1,c,e,fr,h2,h3,h4⟩ | ⟨h0,h1,c,e,h2,h3,h4⟩
  · have:=opv_load_old (P:=P) ho hx hv ha hs h1 h2 h3 hb (fun i hi => by rw [(h4 i hi).1]; exact (h4 i hi).2)
    rwa [key c h3 fun i hi => (h4 i hi).1] at this
  · have:=opv_load (P:=P) ho hx hv ha hs h2 h3 hb
    rwa [key c h3 h4] at this
end Go.Proofs.Orl
namespace Go.Proofs.Orl
open Go
section
variable {P:Program} {r:Option Nat} {s:St} {ops:Array Oper} {i:Nat} {l:List Nat} {o:Oper} {Q:Exit→St→Prop}
theorem sv_new {v:Value} {H:SH} {x:SBlk} (ho:ops[i]? = some o) (hw:wants ops s o true) (hd:dOk o s.n=true) (hH:s.H=H) (hv:OpV P o s v (s.H.new x))
    (h : ∀ H1:SH,NewF H x H1→WO P r ops l Q (s.put o.dst v H1)):WO P r ops (i :: l) Q s:=by
  subst hH
  exact wo_val ho hw (dOk_spec hd) hv (h _ (newF _ _))
theorem sc_ {fx:Operand} {xs:List Operand} {vs:List Value} {ts:Array TypeId} {fv:Value} {H:SH} (ho:ops[i]? = some o) (hw:wants ops s o true) (hd:dOk o s.n=true) (hH:s.H=H)
    (hop:o.op=.call { callee:=.value fx,args:=xs.toArray,argTypes:=ts }) (hf:okO fx=true) (hxs:Evs s xs vs) (hfv:s.ev fx=fv)
    (ht:WV P fv vs H fun v H1 => WO P r ops l Q (s.put o.dst v H1)):WO P r ops (i :: l) Q s:=by
  subst hH
  exact wo_callv ho hw (dOk_spec hd) hop hf hxs hfv ht
end
theorem NewF.keep {H H1:SH} {x:SBlk} (f:NewF H x H1):Keep H H1 :=
  ⟨f.old,by have:=f.next; omega,fun m hm => f.get m (by omega),fun m h => (f.live m).2 (.inl h),fun m h => by
    rcases (f.live m).1 h with h | h
    · exact .inl h
    · exact .inr (by omega)⟩
theorem PutF.x {H H1:SH} {n:Nat} {x:Option SBlk} (f:PutF H n x H1):KeepX (fun m => m=n) H H1 :=
  ⟨f.old,by have:=f.next; omega,fun m hm hx => f.get m hx,fun m h => (f.live m).2 h,fun m h => .inl ((f.live m).1 h)⟩
theorem AppF.x {H H1:SH} {n:Nat} {x:SBlk} (f:AppF H n x H1):KeepX (fun m => m=n) H H1 :=
  ⟨f.old,by have:=f.next; omega,fun m hm hx => f.get m (by omega) hx,fun m h => (f.live m).2 (.inl h),fun m h => by
    rcases (f.live m).1 h with h | h
    · exact .inl h
    · exact .inr (by omega)⟩
theorem KeepX.new_ {X:Nat→Prop} {H H1 H2:SH} {x:SBlk} (a:KeepX X H H1) (f:NewF H1 x H2):KeepX X H H2:=a.keep f.keep
theorem KeepX.put {X:Nat→Prop} {H H1 H2:SH} {n:Nat} {x:Option SBlk} (a:KeepX X H H1) (f:PutF H1 n x H2) (h:X n∨H.next ≤ n):KeepX X H H2:=a.trans f.x fun m e => by subst e; exact h
theorem KeepX.app {X:Nat→Prop} {H H1 H2:SH} {n:Nat} {x:SBlk} (a:KeepX X H H1) (f:AppF H1 n x H2) (h:X n∨H.next ≤ n):KeepX X H H2:=a.trans f.x fun m e => by subst e; exact h
theorem Keep.put {H H1 H2:SH} {n:Nat} {x:Option SBlk} (a:Keep H H1) (f:PutF H1 n x H2) (hn:H.next ≤ n):Keep H H2 :=
  ⟨f.old.trans a.old,by have:=a.next; have:=f.next; omega,fun m hm => by rw [f.get m (by omega)]; exact a.get m hm,fun m h => (f.live m).2 (a.live m h),fun m h => a.new m ((f.live m).1 h)⟩
theorem Keep.app {H H1 H2:SH} {n:Nat} {x:SBlk} (a:Keep H H1) (f:AppF H1 n x H2) (hn:H.next ≤ n):Keep H H2 :=
  ⟨f.old.trans a.old,by have:=a.next; have:=f.next; omega,fun m hm => by have:=a.next; rw [f.get m (by omega) (by omega)]; exact a.get m hm,fun m h => (f.live m).2 (.inl (a.live m h)),fun m h => by
    have:=a.next
    rcases (f.live m).1 h with h | h
    · exact a.new m h
    · exact .inr (by omega)⟩
theorem Bof {H H' : SH} (h:H'.old=H.old):H'.B=H.B:=by unfold SH.B; rw [h]
end Go.Proofs.Orl

namespace Go.Proofs.Orl
open Go

section
variable {B:Nat} {N N' : Nat→Prop} {φ φ' : Ph}
theorem FR.restrict {f u f' : Fn} (h:FR B N φ f u) (r:FR B N' φ' f f'):FR B N φ' f f':=by
  cases h with
  | func f => cases r; exact .func f
  | via t p f b => cases r; exact .via t p f b
  | yield l h1 h2 => cases r; exact .yield l h1 h2

theorem VR.restrict {v u:Value} (h:VR B N φ v u) : ∀ {v' : Value},VR B N' φ' v v'→VR B N φ' v v':=by
  induction h with
  | bool b => intro v' r; cases r; exact .bool b
  | int k n => intro v' r; cases r; exact .int k n
  | string s => intro v' r; cases r; exact .string s
  | nilPtr => intro v' r; cases r; exact .nilPtr
  | oldPtr a h1 => intro v' r; cases r with
    | oldPtr _ _ => exact .oldPtr _ h1
    | ptr n k h3 h4 => exact absurd h1 (Nat.not_lt.2 h3)
  | ptr n k h1 h2 => intro v' r; cases r with
    | oldPtr _ h3 => exact absurd h3 (Nat.not_lt.2 h1)
    | ptr _ _ h3 h4 => exact .ptr n k h1 h2
  | nilSlice l c => intro v' r; cases r; exact .nilSlice l c
  | oldSlice a l c h1 => intro v' r; cases r with
    | oldSlice _ _ _ _ => exact .oldSlice _ _ _ h1
    | slice n k _ _ r g1 g2 g3 g4 g5 => exact absurd h1 (Nat.not_lt.2 g1)
    | empty a b c g => exact .empty _ _ _ fun hB => absurd h1 (Nat.not_lt.2 hB)
  | slice n k l c r h1 h2 h3 h4 h5 => intro v' r; cases r with
    | oldSlice _ _ _ g => exact absurd g (Nat.not_lt.2 h1)
    | slice _ _ _ _ r g1 g2 g3 g4 g5 => exact .slice n k l c r h1 h2 g3 g4 g5
    | empty a b c g => exact .empty _ _ _ fun _ => h2
  | empty a b c h1 => intro v' r; cases r with
    | oldSlice _ _ _ g => exact .oldSlice _ _ _ g
    | slice n k _ _ r g1 g2 g3 g4 g5 => exact .slice n k 0 c r g1 (h1 g1) g3 g4 g5
    | empty a b c g => exact .empty _ _ _ h1
  | nilMap => intro v' r; cases r; exact .nilMap
  | map n h1 h2 => intro v' r; cases r; exact .map n h1 h2
  | func f f' x x' c c' hf hx _ hc _ ih1 ih2 => intro v' r; cases r with
    | func _ f2 _ x2 _ c2 gf gx gx' gc gc' => exact .func _ _ _ _ _ _ (hf.restrict gf) gx (fun i hi => ih1 i hi (gx' i hi)) gc (fun i hi => ih2 i hi (gc' i hi))
  | nilFunc => intro v' r; cases r; exact .nilFunc
  | iface t v v' _ ih => intro v' r; cases r with | iface _ _ v2 g => exact .iface _ _ _ (ih g)
  | nilIface => intro v' r; cases r; exact .nilIface
  | agg x x' hx _ ih => intro v' r; cases r with | agg _ x2 g1 g2 => exact .agg _ _ g1 fun i hi => ih i hi (g2 i hi)
  | tuple x x' hx _ ih => intro v' r; cases r with | tuple _ x2 g1 g2 => exact .tuple _ _ g1 fun i hi => ih i hi (g2 i hi)

theorem AR.restrict {x u x' : Array Value} (h:AR B N φ x u) (r:AR B N' φ' x x'):AR B N φ' x x':=⟨r.1,fun i hi => (h.2 i hi).restrict (r.2 i hi)⟩
theorem TgR.restrict {f u f' : Target} (h:TgR B N φ f u) (r:TgR B N' φ' f f'):TgR B N φ' f f':=by
  cases h with
  | fn f u c cu hf hc => cases r with | fn _ f2 _ c2 gf gc => exact .fn _ _ _ _ (hf.restrict gf) (hc.restrict gc)
  | collected r h1 h2 => cases r; exact .collected _ h1 h2
theorem DR.restrict {d u d' : Deferred} (h:DR B N φ d u) (r:DR B N' φ' d d'):DR B N φ' d d':=⟨h.target.restrict r.target,h.args.restrict r.args⟩
theorem DLR.restrict {d u d' : List Deferred} (h:DLR B N φ d u) (r:DLR B N' φ' d d'):DLR B N φ' d d':=by
  induction h generalizing d' with
  | nil => cases r; exact .nil
  | cons hd _ ih => cases r with | cons g1 g2 => exact .cons (hd.restrict g1) (ih g2)
theorem GR.restrict {g:List (Nat × Value)} {n:Nat} {u t' : Array Value} (h:GR B N φ g n u) (r:GR B N' φ' g n t'):GR B N φ' g n t' :=
  ⟨r.size,fun t => by
    rcases h.val t with e | h1
    · exact .inl e
    · rcases r.val t with e | h2
      · exact .inl e
      · exact .inr (h1.restrict h2)⟩
theorem ER.restrict {e u e' : MapEntry} (h:ER B N φ e u) (r:ER B N' φ' e e'):ER B N φ' e e':=⟨h.key.restrict r.key,h.val.restrict r.val,r.born⟩
theorem OR.restrict {o u o' : Obj} (h:OR B N φ o u) (r:OR B N' φ' o o'):OR B N φ' o o':=by
  cases h with
  | map es eu c h1 h2 => cases r with | map _ es2 _ g1 g2 => exact .map _ _ _ g1 fun i hi hi' => (h2 i hi (by omega)).restrict (g2 i hi hi')
  | stringIter s p => cases r; exact .stringIter s p
  | deferredNone => cases r; exact .deferredNone
  | deferred l lu hl => cases r with | deferred _ l2 g => exact .deferred _ _ (hl.restrict g)
theorem BR.restrict {p p' : Pl} {x:SBlk} {u y:Obj} (h:BR B N φ p x u) (r:BR B N' φ' p' x y):BR B N φ' p' x y:=by
  cases h with
  | row c cu t t' h1 h2 h3 => cases r with | row _ c2 _ t2 g1 g2 g3 => exact .row _ _ _ _ g1 g2 fun i hi => (h3 i hi).restrict (g3 i hi)
  | obj o _ h1 h2 => cases r with | obj _ _ g1 g2 => exact .obj _ _ g1 (h2.restrict g2)
  | loop l lu h1 h2 => cases r with
    | loop _ l2 g1 g2 => exact .loop _ _ g1 ⟨g2.state,g2.pending,h2.tmps.restrict g2.tmps,g2.params,g2.assign,g2.body,h2.defersB,g2.defers⟩
end

def ScB (B:Nat) (N:Nat→Prop) (x:SBlk):Prop:=∃ φ p y,BR B N φ p x y

def mergeF (H H' : SH) (a:Nat):Nat→SH
  | 0 => H
  | k + 1 => (mergeF H H' a k).put (a + k) (H'.get (a + k))
def merge (H:SH) (a b:Nat) (H' : SH):SH :=
  { mergeF H H' a (b - a) with next:=max H.next b,live:=fun n => H.live n∨(H'.live n∧a ≤ n∧n < b) }

theorem mergeF_get (H H' : SH) (a:Nat) : ∀ (k n:Nat),(mergeF H H' a k).get n=if a ≤ n∧n < a + k then H'.get n else H.get n:=by
  intro k
  induction k with
  | zero => intro n; simp [mergeF]; omega
  | succ k ih =>
    intro n
    simp only [mergeF,SH.get_put,ih]
    by_cases e:n=a + k
    · subst e; simp
    · simp only [e,if_false]
      by_cases h:a ≤ n∧n < a + k
      · rw [if_pos h,if_pos (by omega)]
      · rw [if_neg h,if_neg (by omega)]
theorem mergeF_old (H H' : SH) (a:Nat) : ∀ k:Nat,(mergeF H H' a k).old=H.old:=by
  intro k; induction k with
  | zero => rfl
  | succ k ih => simp [mergeF,ih]
theorem merge_get (H:SH) (a b:Nat) (H' : SH) (n:Nat) : (merge H a b H').get n=if a ≤ n∧n < b then H'.get n else H.get n:=by
  show (mergeF H H' a (b - a)).get n=_
  rw [mergeF_get]
  by_cases h:a ≤ n∧n < b
  · rw [if_pos h,if_pos (by omega)]
  · rw [if_neg h,if_neg (by omega)]
theorem merge_old (H:SH) (a b:Nat) (H' : SH) : (merge H a b H').old=H.old:=mergeF_old ..
theorem merge_B (H:SH) (a b:Nat) (H' : SH) : (merge H a b H').B=H.B:=by unfold SH.B; rw [merge_old]

structure Part (A H:SH):Prop where
  old:A.old=H.old
  base:A.B ≤ A.next
  get : ∀ n x,A.get n=some x→H.get n=some x
  live : ∀ n,A.live n→H.live n
  lt : ∀ n,A.live n→n < A.next
  dom : ∀ n,(A.get n).isSome→A.live n
  sc : ∀ n x,A.get n=some x→ScB A.B A.live x

structure Adds (A A' : SH):Prop where
  get : ∀ n x,n < A.next→A.get n=some x→A'.get n=some x
  live : ∀ n,A'.live n→A.live n∨A.next ≤ n

theorem Part.B {A H:SH} (h:Part A H):A.B=H.B:=by unfold SH.B; rw [h.old]

theorem Part.rel {A H:SH} (h:Part A H) {φ:Ph} {w:World} (hr:Rel φ H w):Rel φ A w:=by
  have hs : ∀ n,(A.get n).isSome→(H.get n).isSome:=fun n hn => by
    obtain ⟨x,hx⟩:=Option.isSome_iff_exists.1 hn
    simp [h.get n x hx]
  refine ⟨fun b hb => by rw [h.old]; exact hr.old b (h.B ▸ hb),h.base,by rw [h.B]; exact hr.size,fun n hn => ⟨by rw [h.B]; exact (hr.dom n (hs n hn)).1,h.dom n hn⟩,h.lt,fun n x hx => ?_,fun n m hn hm => hr.inj n m (hs n hn) (hs m hm)⟩
  obtain ⟨h1,y,hy,hbr⟩:=hr.own n x (h.get n x hx)
  obtain ⟨φ0,p0,y0,h0⟩:=h.sc n x hx
  rw [h.B] at h0 ⊢
  exact ⟨h1,y,hy,h0.restrict hbr⟩

def phIn (φ φ1:Ph) (a b:Nat):Ph:=fun n => if a ≤ n∧n < b then φ1 n else φ n

theorem local_run {A A' H:SH} {φ φ1:Ph} {w w1:World} (h:Part A H) (hf : ∀ n,H.live n→n < A.next∨A'.next ≤ n) (hr:Rel φ H w)
    (hr1:Rel φ1 A' w1) (hx:Ext φ φ1 A A' w w1) (ha:Adds A A') :
    Rel (phIn φ φ1 A.next A'.next) (merge H A.next A'.next A') w1∧Ext φ (phIn φ φ1 A.next A'.next) H (merge H A.next A'.next A') w w1∧
      (∀ n,A'.live n→phIn φ φ1 A.next A'.next n=φ1 n)∧(∀ n,A'.live n→(merge H A.next A'.next A').live n):=by
  have e1 : ∀ n,A'.live n→phIn φ φ1 A.next A'.next n=φ1 n:=fun n hn => by
    unfold phIn
    by_cases hi:A.next ≤ n∧n < A'.next
    · rw [if_pos hi]
    · rw [if_neg hi]
      have hlt:=hr1.lt n hn
      rcases ha.live n hn with h1 | h1
      · exact (hx.same n h1).symm
      · omega
  have e2 : ∀ n,H.live n→phIn φ φ1 A.next A'.next n=φ n:=fun n hn => by
    unfold phIn
    rw [if_neg]
    have:=hf n hn
    omega
  have l1 : ∀ n,A'.live n→(merge H A.next A'.next A').live n:=fun n hn => by
    have hlt:=hr1.lt n hn
    rcases ha.live n hn with h1 | h1
    · exact .inl (h.live n h1)
    · exact .inr ⟨hn,h1,hlt⟩
  have l2 : ∀ n,H.live n→(merge H A.next A'.next A').live n:=fun n hn => .inl hn
  have hB:A'.B=H.B:=hx.B.trans h.B
  have hlive : ∀ n,(A'.get n).isSome→A'.live n:=fun n hn => (hr1.dom n hn).2
  have hsH : ∀ n x,A.get n=some x→(φ1 n=φ n):=fun n x hx' => hx.same n (h.dom n (by simp [hx']))
  -- the blocks
  have hcase : ∀ n x,(merge H A.next A'.next A').get n=some x→(A.next ≤ n∧n < A'.next∧A'.get n=some x)∨(¬ (A.next ≤ n∧n < A'.next)∧H.get n=some x):=fun n x hx' => by
    rw [merge_get] at hx'
    by_cases hi:A.next ≤ n∧n < A'.next
    · rw [if_pos hi] at hx'; exact .inl ⟨hi.1,hi.2,hx'⟩
    · rw [if_neg hi] at hx'; exact .inr ⟨hi,hx'⟩
  have hfresh : ∀ n x,A.next ≤ n→A'.get n=some x→w.heap.size ≤ (φ1 n).b:=fun n x hn hx' => by
    rcases hx.from_ n (by simp [hx']) with h1 | ⟨m,hm,e⟩
    · exact h1
    · obtain ⟨z,hz⟩:=Option.isSome_iff_exists.1 hm
      have hm':=ha.get m z (h.lt m (h.dom m hm)) hz
      rw [← hsH m z hz] at e
      have:=hr1.inj m n (by simp [hm']) (by simp [hx']) e
      have:=h.lt m (h.dom m hm)
      omega
  have hold : ∀ n x,H.get n=some x→(φ n).b < w.heap.size:=fun n x hx' => by
    obtain ⟨_,y,hy,_⟩:=hr.own n x hx'
    exact (Array.getElem?_eq_some_iff.1 hy).1
  have hkeep : ∀ n x,H.get n=some x→A.get n=none→w1.heap[(φ n).b]? = w.heap[(φ n).b]?:=fun n x hx' hA => by
    refine hx.keep _ (hold n x hx') fun m hm e => ?_
    obtain ⟨z,hz⟩:=Option.isSome_iff_exists.1 hm
    have:=hr.inj m n (by simp [h.get m z hz]) (by simp [hx']) e
    subst this
    rw [hz] at hA; cases hA
  refine ⟨⟨fun b hb => ?_,?_,?_,fun n hn => ?_,fun n hn => ?_,fun n x hx' => ?_,fun n m hn hm e => ?_⟩,⟨e2,?_,l2,merge_old ..,hx.size,fun b hb hn => ?_,fun n hn => ?_,hx.out,hx.os⟩,e1,l1⟩
  · rw [merge_B] at hb
    rw [merge_old,← h.old,← hx.old]
    exact hr1.old b (by rw [hB]; exact hb)
  · rw [merge_B]; exact Nat.le_trans hr.base (Nat.le_max_left _ _)
  · rw [merge_B,← hB]; exact hr1.size
  · obtain ⟨x,hx'⟩:=Option.isSome_iff_exists.1 hn
    rw [merge_B]
    rcases hcase n x hx' with ⟨h1,h2,h3⟩ | ⟨_,h3⟩
    · have:=hr1.dom n (by simp [h3])
      exact ⟨by rw [← hB]; exact this.1,l1 n this.2⟩
    · have:=hr.dom n (by simp [h3])
      exact ⟨this.1,.inl this.2⟩
  · show n < max H.next A'.next
    rcases hn with hn | hn
    · have:=hr.lt n hn; omega
    · have:=hn.2.2; omega
  · rw [merge_B]
    rcases hcase n x hx' with ⟨h1,h2,h3⟩ | ⟨_,h3⟩
    · obtain ⟨g1,y,hy,hbr⟩:=hr1.own n x h3
      have hl:=(hr1.dom n (by simp [h3])).2
      rw [e1 n hl]
      exact ⟨by rw [← hB]; exact g1,y,hy,by rw [← hB]; exact hbr.mono l1 e1⟩
    · obtain ⟨g1,y,hy,hbr⟩:=hr.own n x h3
      rw [e2 n (hr.dom n (by simp [h3])).2]
      cases hA:A.get n with
      | none => exact ⟨g1,y,(hkeep n x h3 hA).trans hy,hbr.mono l2 e2⟩
      | some z =>
        have hz:=h.get n z hA
        rw [h3] at hz; cases hz
        obtain ⟨k1,y',hy',hbr'⟩:=hr1.own n x (ha.get n x (h.lt n (h.dom n (by simp [hA]))) hA)
        rw [hsH n x hA] at k1 hy' hbr'
        exact ⟨g1,y',hy',by rw [← hB]; exact hbr'.mono l1 e1⟩
  · obtain ⟨x,hx'⟩:=Option.isSome_iff_exists.1 hn
    obtain ⟨z,hz'⟩:=Option.isSome_iff_exists.1 hm
    rcases hcase n x hx' with ⟨h1,h2,h3⟩ | ⟨h1,h3⟩ <;> rcases hcase m z hz' with ⟨k1,k2,k3⟩ | ⟨k1,k3⟩
    · rw [e1 n (hlive n (by simp [h3])),e1 m (hlive m (by simp [k3]))] at e
      exact hr1.inj n m (by simp [h3]) (by simp [k3]) e
    · rw [e1 n (hlive n (by simp [h3])),e2 m (hr.dom m (by simp [k3])).2] at e
      have:=hfresh n x h1 h3
      have:=hold m z k3
      omega
    · rw [e2 n (hr.dom n (by simp [h3])).2,e1 m (hlive m (by simp [k3]))] at e
      have:=hfresh m z k1 k3
      have:=hold n x h3
      omega
    · rw [e2 n (hr.dom n (by simp [h3])).2,e2 m (hr.dom m (by simp [k3])).2] at e
      exact hr.inj n m (by simp [h3]) (by simp [k3]) e
  · exact Nat.le_max_left _ _
  · refine hx.keep b hb fun m hm => hn m ?_
    obtain ⟨z,hz⟩:=Option.isSome_iff_exists.1 hm
    simp [h.get m z hz]
  · obtain ⟨x,hx'⟩:=Option.isSome_iff_exists.1 hn
    rcases hcase n x hx' with ⟨h1,h2,h3⟩ | ⟨h1,h3⟩
    · left; rw [e1 n (hlive n (by simp [h3]))]; exact hfresh n x h1 h3
    · right; exact ⟨n,by simp [h3],by rw [e2 n (hr.dom n (by simp [h3])).2]⟩
end Go.Proofs.Orl

namespace Go.Proofs.Orl
open Go

def upon (ops:Array Oper) (i:Nat):List Nat:=match ops[i]? with | none => [] | some o => (o.after.toList.filter (Region.binds .any)).map (·.on)
def reachB (up:Nat→List Nat):Nat→Nat→Nat→Bool
  | 0,_,_ => false
  | f + 1,i,j => (up i).any fun k => Nat.beq k j || reachB up f k j

def lsd (listed:Array Bool) (i:Nat):Prop:=listed.getD i false=true

def Closed (up:Nat→List Nat) (listed:Array Bool):Prop:=∀ i,lsd listed i→∀ k ∈ up i,lsd listed k

theorem reach_spec {up:Nat→List Nat} {listed:Array Bool} (hc:Closed up listed) : ∀ (f i j:Nat),reachB up f i j=true→(∀ k ∈ up i,lsd listed k)→lsd listed j:=by
  intro f
  induction f with
  | zero => intro i j h; simp [reachB] at h
  | succ f ih =>
    intro i j h hi
    simp only [reachB,List.any_eq_true,Bool.or_eq_true] at h
    obtain ⟨k,hk,h1 | h1⟩:=h
    · obtain rfl:=Nat.eq_of_beq_eq_true h1; exact hi k hk
    · exact ih k j h1 (hc k (hi k hk))

section
variable {ops:Array Oper} {up:Nat→List Nat}

theorem ready_upon {listed:Array Bool} {i:Nat} (hs:listed.size=ops.size):i ∈ Region.ready .any ops listed ↔ i < ops.size∧¬ lsd listed i∧∀ k ∈ upon ops i,lsd listed k:=by
  rw [mem_ready]
  unfold upon lsd
  constructor
  · rintro ⟨h0,o,ho,h⟩
    have hlt:=(Array.getElem?_eq_some_iff.1 ho).1
    refine ⟨hlt,?_,?_⟩
    · simp [hs,hlt] at h0 ⊢; exact h0
    · rw [ho]
      intro k hk
      simp only [List.mem_map,List.mem_filter] at hk
      obtain ⟨e,⟨he,hb⟩,rfl⟩:=hk
      exact h e (Array.mem_toList_iff.1 he) hb
  · rintro ⟨hlt,h0,h⟩
    refine ⟨?_,ops[i],by simp [hlt],fun e he hb => ?_⟩
    · simp [hs,hlt] at h0 ⊢; exact h0
    · have ho:ops[i]? = some ops[i]:=by simp [hlt]
      rw [ho] at h
      exact h e.on (by simp only [List.mem_map,List.mem_filter]; exact ⟨e,⟨Array.mem_toList_iff.2 he,hb⟩,rfl⟩)

theorem lsd_set {listed:Array Bool} {i j:Nat} (hi:i < listed.size):lsd (listed.setIfInBounds i true) j ↔ j=i∨lsd listed j:=by
  unfold lsd
  by_cases e:i=j
  · subst e; simp [hi]
  · simp [Array.getElem?_setIfInBounds_ne e,Ne.symm e]

theorem closed_set {listed:Array Bool} {i:Nat} (hi:i < listed.size) (hc:Closed up listed) (hr : ∀ k ∈ up i,lsd listed k):Closed up (listed.setIfInBounds i true):=fun j hj k hk => by
  rw [lsd_set hi] at hj ⊢
  rcases hj with rfl | hj
  · exact .inr (hr k hk)
  · exact .inr (hc j hj k hk)

def left (n:Nat) (listed:Array Bool):Nat:=((List.range n).filter fun i => !listed.getD i false).length

theorem filter_len_le {α:Type} (p q:α→Bool) : ∀ l:List α,(∀ x ∈ l,p x=true→q x=true)→(l.filter p).length ≤ (l.filter q).length:=by
  intro l h
  induction l with
  | nil => simp
  | cons x l ih =>
    have h1:=ih fun y hy => h y (by simp [hy])
    by_cases hp:p x=true
    · have hq:=h x (by simp) hp
      simp [hp,hq]; exact h1
    · by_cases hq:q x=true
      · simp [hp,hq]; omega
      · simp [hp,hq]; exact h1
theorem filter_len_lt {α:Type} (p q:α→Bool) : ∀ l:List α,(∀ x ∈ l,p x=true→q x=true)→(∃ x ∈ l,p x=false∧q x=true)→(l.filter p).length < (l.filter q).length:=by
  intro l h hx
  induction l with
  | nil => simp at hx
  | cons x l ih =>
    have hl : ∀ y ∈ l,p y=true→q y=true:=fun y hy => h y (by simp [hy])
    have h1:=filter_len_le p q l hl
    obtain ⟨y,hy,hy1,hy2⟩:=hx
    rcases List.mem_cons.1 hy with rfl | hy
    · simp [hy1,hy2]; omega
    · have h2:=ih hl ⟨y,hy,hy1,hy2⟩
      by_cases hp:p x=true
      · have hq:=h x (by simp) hp
        simp [hp,hq]; exact h2
      · by_cases hq:q x=true
        · simp [hp,hq]; omega
        · simp [hp,hq]; exact h2

theorem left_set {listed:Array Bool} {n i:Nat} (hn:listed.size=n) (hi:i < n) (h : ¬ lsd listed i):left n (listed.setIfInBounds i true) < left n listed:=by
  unfold left
  refine filter_len_lt _ _ _ (fun j _ hj => ?_) ⟨i,by simpa using hi,?_,?_⟩
  · have hj' : ¬ lsd (listed.setIfInBounds i true) j:=by unfold lsd; simpa using hj
    rw [lsd_set (by omega)] at hj'
    have : ¬ lsd listed j:=fun h => hj' (.inr h)
    unfold lsd at this; simpa using this
  · have:lsd (listed.setIfInBounds i true) i:=(lsd_set (by omega)).2 (.inl rfl)
    unfold lsd at this; simp only [this]; rfl
  · unfold lsd at h; simpa using h

theorem ready_some {listed:Array Bool} (hs:listed.size=ops.size) (hup : ∀ i < ops.size,∀ k ∈ upon ops i,k < i) : ∀ n,n ≤ ops.size→(∀ i,i < n→lsd listed i)∨∃ i ∈ Region.ready .any ops listed,i < n:=by
  intro n
  induction n with
  | zero => exact fun _ => .inl fun i hi => absurd hi (Nat.not_lt_zero _)
  | succ n ih =>
    intro hn
    rcases ih (by omega) with h | ⟨i,h1,h2⟩
    · by_cases hl:lsd listed n
      · exact .inl fun i hi => by
          by_cases e:i=n
          · subst e; exact hl
          · exact h i (by omega)
      · exact .inr ⟨n,(ready_upon hs).2 ⟨by omega,hl,fun k hk => h k (hup n (by omega) k hk)⟩,by omega⟩
    · exact .inr ⟨i,h1,by omega⟩

theorem go_step {listed:Array Bool} (hs:listed.size=ops.size) (hup : ∀ i < ops.size,∀ k ∈ upon ops i,k < i) (hne : ∃ i,i < ops.size∧¬ lsd listed i) (fuel t:Nat) :
    ∃ i t',i ∈ Region.ready .any ops listed∧Region.linearise.go .any ops (fuel + 1) t listed [] = i :: Region.linearise.go .any ops fuel t' (listed.setIfInBounds i true) []:=by
  have hnil:Region.ready .any ops listed ≠ []:=by
    obtain ⟨i,hi,hl⟩:=hne
    rcases ready_some hs hup ops.size (Nat.le_refl _) with h | ⟨j,hj,_⟩
    · exact absurd (h i hi) hl
    · intro e; rw [e] at hj; cases hj
  have hpos:0 < (Region.ready .any ops listed).length:=by
    cases h:Region.ready .any ops listed with
    | nil => exact absurd h hnil
    | cons x xs => simp
  have hlt:=Nat.mod_lt t hpos
  refine ⟨(Region.ready .any ops listed)[t % (Region.ready .any ops listed).length],t / (Region.ready .any ops listed).length,List.getElem_mem hlt,?_⟩
  simp only [Region.linearise.go]
  change (match (Region.ready .any ops listed)[t % (Region.ready .any ops listed).length]? with
      | some i => Region.linearise.go .any ops fuel (t / (Region.ready .any ops listed).length) (listed.setIfInBounds i true) [i]
      | none => [].reverse) = _
  rw [List.getElem?_eq_getElem hlt]
  simp only []
  rw [linearise_go_acc]
  rfl

theorem go_done {listed:Array Bool} (hs:listed.size=ops.size) (h : ∀ i,i < ops.size→lsd listed i) : ∀ fuel t:Nat,Region.linearise.go .any ops fuel t listed [] = []:=by
  intro fuel t
  cases fuel with
  | zero => rfl
  | succ fuel =>
    simp only [Region.linearise.go]
    change (match (Region.ready .any ops listed)[t % (Region.ready .any ops listed).length]? with
      | some i => Region.linearise.go .any ops fuel (t / (Region.ready .any ops listed).length) (listed.setIfInBounds i true) [i]
      | none => [].reverse) = _
    have:Region.ready .any ops listed=[]:=by
      apply List.eq_nil_iff_forall_not_mem.2
      intro i hi
      rw [ready_upon hs] at hi
      exact hi.2.1 (h i hi.1)
    rw [this]; rfl

theorem go_tail (hup : ∀ i < ops.size,∀ k ∈ upon ops i,k < i) : ∀ (tl:List Nat) (fuel t:Nat) (listed:Array Bool),listed.size=ops.size→Closed (upon ops) listed→(∀ i,i < ops.size→(¬ lsd listed i ↔ i ∈ tl))→tl.Nodup→(∀ i ∈ tl,i < ops.size)→
    (∀ a x b y c,tl=a++x :: b++y :: c→∃ f,reachB (upon ops) f y x=true)→left ops.size listed ≤ fuel→Region.linearise.go .any ops fuel t listed [] = tl:=by
  intro tl
  induction tl with
  | nil => intro fuel t listed hs _ hl _ _ _ _; exact go_done hs (fun i hi => Classical.byContradiction fun h => by simpa using (hl i hi).1 h) _ _
  | cons x tl ih =>
    intro fuel t listed hs hc hl hnd hlt hre hfuel
    have hx:x < ops.size:=hlt x (by simp)
    have hxu : ¬ lsd listed x:=(hl x hx).2 (by simp)
    cases fuel with
    | zero => exact absurd (left_set hs hx hxu) (by omega)
    | succ fuel =>
      obtain ⟨i,t',hi,hgo⟩:=go_step hs hup ⟨x,hx,hxu⟩ fuel t
      rw [ready_upon hs] at hi
      obtain ⟨hi1,hi2,hi3⟩:=hi
      have hix:i=x:=by
        rcases List.mem_cons.1 ((hl i hi1).1 hi2) with e | hm
        · exact e
        · obtain ⟨b,c,e⟩:=List.append_of_mem hm
          obtain ⟨f,hf⟩:=hre [] x b i c (by simp [e])
          exact absurd (reach_spec hc f i x hf hi3) hxu
      subst hix
      rw [hgo]
      congr 1
      rw [List.nodup_cons] at hnd
      refine ih fuel t' _ (by simpa using hs) (closed_set (by omega) hc hi3) (fun j hj => ?_) hnd.2 (fun j hj => hlt j (by simp [hj])) (fun a y b z c e => hre (i :: a) y b z c (by simp [e])) ?_
      · rw [lsd_set (by omega)]
        have:=hl j hj
        constructor
        · intro h
          have h1 : ¬ lsd listed j:=fun h' => h (.inr h')
          rcases List.mem_cons.1 (this.1 h1) with e | e
          · exact absurd (.inl e) h
          · exact e
        · rintro h (rfl | h')
          · exact hnd.1 h
          · exact this.2 (by simp [h]) h'
      · have:=left_set hs hi1 hi2
        omega
end

def StepO (P:Program) (r:Option Nat) (ops:Array Oper) (i:Nat) (s:St) (v:Value) (H' : SH):Prop :=
  ∃ o,ops[i]? = some o∧(∀ k,o.dst=some k→k < s.n)∧∀ (φ:Ph) (w:World) (a' : Act),Rel φ s.H w→AcR s.H.B s.H.live φ s a'→(∀ l,r=some l→s.H.live l)→∀ (l:List Nat) (Q:Exit→Act→World→Prop),
    (∀ φ' w' v',(v=undef∨VR H'.B H'.live φ' v v')→Rel φ' H' w'→Ext φ φ' s.H H' w w'→wpOpsIn (fence r φ) 0 P ops Q l (a'.put o.dst v') w')→wpOpsIn (fence r φ) 0 P ops Q (i :: l) a' w

section
variable {P:Program} {r:Option Nat} {ops:Array Oper} {i:Nat} {s:St} {o:Oper}
theorem step_skip (ho:ops[i]? = some o) (hw:wants ops s o false) (hd : ∀ k,o.dst=some k→k < s.n):StepO P r ops i s undef s.H :=
  ⟨o,ho,hd,fun φ w a' hr ha hl l Q h => by
    simp only [wpOpsIn,ho]
    rw [wants_rel ha hw]
    exact ⟨fun f _ => fence_fn r φ f,h φ w undef (.inl rfl) hr (.refl _ _ _)⟩⟩

theorem step_val {v:Value} {H1:SH} (ho:ops[i]? = some o) (hw:wants ops s o true) (hd : ∀ k,o.dst=some k→k < s.n) (hv:OpV P o s v H1):StepO P r ops i s v H1 :=
  ⟨o,ho,hd,fun φ w a' hr ha hl l Q h => by
    simp only [wpOpsIn,ho]
    rw [wants_rel ha hw]
    refine ⟨fun f _ => fence_fn r φ f,?_⟩
    obtain ⟨φ1,w1,v',hrun,hvr,hr1,hext⟩:=hv.2 φ w a' hr ha
    rw [Oper.semAt_eq _ _ _ hv.1]
    rcases hrun with hrun | ⟨hrun,rfl⟩
    · rw [hrun]; exact h φ1 w1 v' hvr hr1 hext
    · rw [hrun]; exact h φ1 w1 undef hvr hr1 hext⟩

theorem step_call {f:FuncId} {args:Array Value} {v:Value} {H1:SH} (ho:ops[i]? = some o) (hw:wants ops s o true) (hd : ∀ k,o.dst=some k→k < s.n) (hc:CallOp P o s f args) (ht:T P f args s.H (.returned v) H1) :
    StepO P r ops i s v H1 :=
  ⟨o,ho,hd,fun φ w a' hr ha hl l Q h => by
    simp only [wpOpsIn,ho]
    rw [wants_rel ha hw]
    refine ⟨fun f _ => fence_fn r φ f,?_⟩
    obtain ⟨args',hrun,har⟩:=hc.run φ w a' hr ha
    rw [Oper.semAt_eq _ _ _ hc.nodefer,hrun]
    refine ⟨(fun hd => by (rw [fence_depth] at hd; cases hd)),?_⟩
    have hcall:=ht φ w args' hr har
    have hcall' : CallsIn (fence r φ) (0 - 1) P f args' w fun e' w' => ∃ φ',EdR H1.B H1.live φ' (.returned v) e'∧Rel φ' H1 w'∧Ext φ φ' s.H H1 w w':=by
      cases r with
      | none => exact hcall
      | some l => exact hcall
    refine hcall'.mono fun e1 w1 he => ?_
    obtain ⟨φ1,hed,hr1,hext⟩:=he
    cases hed with
    | returned _ v' hvr => exact h φ1 w1 v' (.inr hvr) hr1 hext⟩
end

structure HI where
  A:SH
  g:List (Nat × Value)
  v:Value
  A' : SH
  anc:List Nat
  deriving Inhabited

def dstOf (ops:Array Oper) (i:Nat):Option Tmp:=(ops[i]?).bind (·.dst)

structure HOk (P:Program) (r:Option Nat) (ops:Array Oper) (up:Nat→List Nat) (s:St) (I:Nat→HI) (hd:List Nat) (i:Nat):Prop where
  step:StepO P r ops i ⟨(I i).g,s.n,s.ds,(I i).A⟩ (I i).v (I i).A'
  adds:Adds (I i).A (I i).A'
  old : (I i).A.old=s.H.old
  base:s.H.next ≤ (I i).A.next
  get : ∀ n x,(I i).A.get n=some x→s.H.get n=some x∨∃ j ∈ (I i).anc,(I j).A.next ≤ n∧(I j).A'.get n=some x∧∀ m,(I j).A'.live m→(I i).A.live m
  live0 : ∀ n,s.H.live n→(I i).A.live n
  live : ∀ n,(I i).A.live n→s.H.live n∨∃ j ∈ (I i).anc,(I j).A'.live n∧(I j).A'.next ≤ (I i).A.next
  tmps : ∀ t,lk (I i).g t=undef∨(lk (I i).g t=lk s.g t∧∀ j ∈ hd,dstOf ops j ≠ some t)∨∃ j ∈ (I i).anc,dstOf ops j=some t∧lk (I i).g t=(I j).v∧∀ m,(I j).A'.live m→(I i).A.live m
  anc : ∀ j ∈ (I i).anc,j ∈ hd∧∃ f,reachB up f i j=true
  apart : ∀ j ∈ hd,j ≠ i→(I i).A'.next ≤ (I j).A.next∨(I j).A'.next ≤ (I i).A.next
  dst : ∀ j ∈ hd,j ≠ i→∀ t,dstOf ops i=some t→dstOf ops j ≠ some t

structure HEnd (ops:Array Oper) (s:St) (I:Nat→HI) (hd:List Nat) (sN:St):Prop where
  n:sN.n=s.n
  ds:sN.ds=s.ds
  old:sN.H.old=s.H.old
  next:s.H.next ≤ sN.H.next
  get : ∀ n x,sN.H.get n=some x→s.H.get n=some x∨∃ j ∈ hd,(I j).A.next ≤ n∧(I j).A'.get n=some x
  live0 : ∀ n,s.H.live n→sN.H.live n
  live : ∀ j ∈ hd,∀ n,(I j).A'.live n→sN.H.live n
  lt : ∀ n,sN.H.live n→s.H.live n∨∃ j ∈ hd,(I j).A'.live n∧(I j).A'.next ≤ sN.H.next
  tmps : ∀ t,lk sN.g t=undef∨(lk sN.g t=lk s.g t∧∀ j ∈ hd,dstOf ops j ≠ some t)∨∃ j ∈ hd,dstOf ops j=some t∧lk sN.g t=(I j).v

structure HG (ops:Array Oper) (s:St) (I:Nat→HI) (hd:List Nat) (φ0:Ph) (w0:World) (listed:Array Bool) (a:Act) (w:World) (φ:Ph) (H:SH):Prop where
  rel:Rel φ H w
  ext:Ext φ0 φ s.H H w0 w
  get0 : ∀ n x,s.H.get n=some x→H.get n=some x
  blk : ∀ j ∈ hd,lsd listed j→∀ n x,(I j).A.next ≤ n→(I j).A'.get n=some x→H.get n=some x∧ScB s.H.B (I j).A'.live x∧(I j).A'.live n∧n < (I j).A'.next
  liv : ∀ j ∈ hd,lsd listed j→∀ n,(I j).A'.live n→H.live n∧n < (I j).A'.next
  val : ∀ j ∈ hd,lsd listed j→∀ t,dstOf ops j=some t→(I j).v=undef∨VR s.H.B (I j).A'.live φ (I j).v (a.tmps.getD t undef)
  live : ∀ n,H.live n→s.H.live n∨∃ j ∈ hd,lsd listed j∧(I j).A'.live n∧(I j).A.next ≤ n∧n < (I j).A'.next
  size:a.tmps.size=s.n
  tmp0 : ∀ t,(∀ j ∈ hd,lsd listed j→dstOf ops j ≠ some t)→lk s.g t=undef∨VR s.H.B s.H.live φ (lk s.g t) (a.tmps.getD t undef)
  ds:DLR s.H.B s.H.live φ s.ds a.defers

section
variable {P:Program} {r:Option Nat} {ops:Array Oper} {up:Nat→List Nat} {s:St} {I:Nat→HI} {hd:List Nat} {φ0:Ph} {w0:World}

theorem ScB.mono {B:Nat} {N N' : Nat→Prop} {x:SBlk} (h:ScB B N x) (hN : ∀ n,N n→N' n):ScB B N' x:=by
  obtain ⟨φ,p,y,h⟩:=h
  exact ⟨φ,p,y,h.mono hN fun _ _ => rfl⟩

theorem put_tmps {a:Act} {d:Option Tmp} {v:Value} {t:Nat} (h:d ≠ some t) : (a.put d v).tmps.getD t undef=a.tmps.getD t undef:=by
  cases d with
  | none => rfl
  | some d =>
    have:d ≠ t:=fun e => h (by rw [e])
    simp [Act.put,Array.getD_eq_getD_getElem?,Array.getElem?_setIfInBounds_ne this]
theorem put_size (a:Act) (d:Option Tmp) (v:Value) : (a.put d v).tmps.size=a.tmps.size:=by cases d <;> simp [Act.put]
theorem put_defs (a:Act) (d:Option Tmp) (v:Value) : (a.put d v).defers=a.defers:=by cases d <;> rfl
theorem put_same {a:Act} {t:Tmp} {v:Value} (h:t < a.tmps.size) : (a.put (some t) v).tmps.getD t undef=v:=by simp [Act.put,h]

theorem HG.step {listed:Array Bool} {a:Act} {w:World} {φ:Ph} {H:SH} (g:HG ops s I hd φ0 w0 listed a w φ H) (hr0:Rel φ0 s.H w0) (hrl : ∀ l,r=some l→s.H.live l)
    (hs:listed.size=ops.size) (hc:Closed up listed) {i:Nat} (hi:i ∈ hd) (hil : ¬ lsd listed i) (hilt:i < ops.size) (hup : ∀ k ∈ up i,lsd listed k) (h:HOk P r ops up s I hd i) {l:List Nat} {Q:Exit→Act→World→Prop}
    (hk : ∀ a' w' φ' H',HG ops s I hd φ0 w0 (listed.setIfInBounds i true) a' w' φ' H'→Ext φ φ' H H' w w'→(∀ t,dstOf ops i ≠ some t→a'.tmps.getD t undef=a.tmps.getD t undef)→wpOpsIn (fence r φ0) 0 P ops Q l a' w'):wpOpsIn (fence r φ0) 0 P ops Q (i :: l) a w:=by
  have hanc : ∀ j ∈ (I i).anc,j ∈ hd∧lsd listed j:=fun j hj => ⟨(h.anc j hj).1,let ⟨f,hf⟩:=(h.anc j hj).2; reach_spec hc f i j hf hup⟩
  have hAB : (I i).A.B=s.H.B:=by unfold SH.B; rw [h.old]
  have hHB:H.B=s.H.B:=g.ext.B
  have hsc : ∀ n x,s.H.get n=some x→s.H.live n∧ScB s.H.B s.H.live x:=fun n x hx => ⟨(hr0.dom n (by simp [hx])).2,let ⟨_,y,_,hb⟩:=hr0.own n x hx; ⟨φ0,_,y,hb⟩⟩
  have part:Part (I i).A H:=by
    refine ⟨h.old.trans g.ext.old.symm,by rw [hAB]; exact Nat.le_trans hr0.base h.base,fun n x hx => ?_,fun n hn => ?_,fun n hn => ?_,fun n hn => ?_,fun n x hx => ?_⟩
    · rcases h.get n x hx with h1 | ⟨j,hj,h1,h3,_⟩
      · exact g.get0 n x h1
      · exact (g.blk j (hanc j hj).1 (hanc j hj).2 n x h1 h3).1
    · rcases h.live n hn with h1 | ⟨j,hj,h1,_⟩
      · exact g.ext.live n h1
      · exact (g.liv j (hanc j hj).1 (hanc j hj).2 n h1).1
    · rcases h.live n hn with h1 | ⟨j,hj,h1,h2⟩
      · exact Nat.lt_of_lt_of_le (hr0.lt n h1) h.base
      · exact Nat.lt_of_lt_of_le (g.liv j (hanc j hj).1 (hanc j hj).2 n h1).2 h2
    · obtain ⟨x,hx⟩:=Option.isSome_iff_exists.1 hn
      rcases h.get n x hx with h1 | ⟨j,hj,h1,h3,h4⟩
      · exact h.live0 n (hsc n x h1).1
      · exact h4 n (g.blk j (hanc j hj).1 (hanc j hj).2 n x h1 h3).2.2.1
    · rw [hAB]
      rcases h.get n x hx with h1 | ⟨j,hj,h1,h3,h4⟩
      · exact (hsc n x h1).2.mono h.live0
      · exact (g.blk j (hanc j hj).1 (hanc j hj).2 n x h1 h3).2.1.mono h4
  have hfresh : ∀ n,H.live n→n < (I i).A.next∨(I i).A'.next ≤ n:=fun n hn => by
    rcases g.live n hn with h1 | ⟨j,hj,hjl,_,h1,h2⟩
    · exact .inl (Nat.lt_of_lt_of_le (hr0.lt n h1) h.base)
    · have hne:j ≠ i:=fun e => hil (e ▸ hjl)
      rcases h.apart j hj hne with h3 | h3 <;> omega
  have hac:AcR (I i).A.B (I i).A.live φ ⟨(I i).g,s.n,s.ds,(I i).A⟩ a:=by
    rw [hAB]
    refine ⟨⟨g.size,fun t => ?_⟩,g.ds.mono h.live0 fun _ _ => rfl⟩
    rcases h.tmps t with h1 | ⟨h1,h2⟩ | ⟨j,hj,h1,h2,h3⟩
    · exact .inl h1
    · show lk (I i).g t=undef∨VR _ _ φ (lk (I i).g t) _
      rw [h1]
      exact (g.tmp0 t fun j hj _ => h2 j hj).imp id fun r => r.mono h.live0 fun _ _ => rfl
    · show lk (I i).g t=undef∨VR _ _ φ (lk (I i).g t) _
      rw [h2]
      exact (g.val j (hanc j hj).1 (hanc j hj).2 t h1).imp id fun r => r.mono h3 fun _ _ => rfl
  obtain ⟨o,ho,hdlt,hstep⟩:=h.step
  have hdst:dstOf ops i=o.dst:=by simp [dstOf,ho]
  have hf1:fence r φ=fence r φ0:=fence_eq hrl g.ext.same
  have:=hstep φ w a (part.rel g.rel) hac (fun l hl => h.live0 _ (hrl l hl)) l Q fun φ1 w1 v1 hv hr1 hx => ?_
  · rwa [hf1] at this
  obtain ⟨R1,E1,e1,l1⟩:=local_run part hfresh g.rel hr1 hx h.adds
  rw [hf1]
  have hA'B : (I i).A'.B=s.H.B:=hx.B.trans hAB
  have hins : ∀ j,lsd (listed.setIfInBounds i true) j→j=i∨lsd listed j:=fun j hj => (lsd_set (by omega)).1 hj
  have hex:=g.ext.trans E1
  refine hk _ w1 _ _ ⟨R1,hex,fun n x hx0 => ?_,fun j hj hjl n x h1 h3 => ?_,fun j hj hjl n hn => ?_,fun j hj hjl t ht => ?_,fun n hn => ?_,by rw [put_size]; exact g.size,fun t ht => ?_,by rw [put_defs]; exact g.ds.mono (fun _ h => h) fun n hn => E1.same n (g.ext.live n hn)⟩ E1 fun t ht => put_tmps (by rw [← hdst]; exact ht)
  · have hlt:=hr0.lt n (hsc n x hx0).1
    rw [merge_get,if_neg (by have:=h.base; omega)]
    exact g.get0 n x hx0
  · rcases hins j hjl with rfl | hjl
    · have hlv:=(hr1.dom n (by simp [h3])).2
      refine ⟨by rw [merge_get,if_pos ⟨h1,hr1.lt n hlv⟩]; exact h3,?_,hlv,hr1.lt n hlv⟩
      obtain ⟨_,y,_,hb⟩:=hr1.own n x h3
      rw [hA'B] at hb
      exact ⟨φ1,_,y,hb⟩
    · have hne:j ≠ i:=fun e => hil (e ▸ hjl)
      obtain ⟨k1,k2,k3,h2⟩:=g.blk j hj hjl n x h1 h3
      refine ⟨?_,k2,k3,h2⟩
      rw [merge_get,if_neg (by rcases h.apart j hj hne with h3 | h3 <;> omega)]
      exact k1
  · rcases hins j hjl with rfl | hjl
    · exact ⟨l1 n hn,hr1.lt n hn⟩
    · exact ⟨.inl (g.liv j hj hjl n hn).1,(g.liv j hj hjl n hn).2⟩
  · rcases hins j hjl with rfl | hjl
    · rw [hdst] at ht
      have hlt:t < a.tmps.size:=by rw [g.size]; exact hdlt t ht
      rw [ht,put_same hlt]
      exact hv.imp id fun r => by rw [hA'B] at r; exact r.mono (fun _ h => h) e1
    · have hne:j ≠ i:=fun e => hil (e ▸ hjl)
      rw [put_tmps (fun e => h.dst j hj hne t (hdst.trans e) ht)]
      exact (g.val j hj hjl t ht).imp id fun r => r.mono (fun _ h => h) fun n hn => E1.same n (g.liv j hj hjl n hn).1
  · rcases hn with hn | ⟨hl',h1,h2⟩
    · rcases g.live n hn with h1 | ⟨j,hj,hjl,h1⟩
      · exact .inl h1
      · exact .inr ⟨j,hj,(lsd_set (by omega)).2 (.inr hjl),h1⟩
    · exact .inr ⟨i,hi,(lsd_set (by omega)).2 (.inl rfl),hl',h1,h2⟩
  · rw [put_tmps (fun e => ht i hi ((lsd_set (by omega)).2 (.inl rfl)) (hdst.trans e))]
    exact (g.tmp0 t fun j hj hjl => ht j hj ((lsd_set (by omega)).2 (.inr hjl))).imp id fun r => r.mono (fun _ h => h) fun n hn => E1.same n (g.ext.live n hn)

theorem HG.fin {listed:Array Bool} {a:Act} {w:World} {φ:Ph} {H:SH} (g:HG ops s I hd φ0 w0 listed a w φ H) (hr0:Rel φ0 s.H w0) (hall : ∀ j ∈ hd,lsd listed j) {sN:St} (h:HEnd ops s I hd sN) :
    Rel φ sN.H w∧AcR sN.H.B sN.H.live φ sN a∧Ext φ0 φ s.H sN.H w0 w:=by
  have hB:sN.H.B=s.H.B:=by unfold SH.B; rw [h.old]
  have hHB:H.B=s.H.B:=g.ext.B
  have hlive : ∀ n,H.live n→sN.H.live n:=fun n hn => by
    rcases g.live n hn with h1 | ⟨j,hj,hjl,hl,_,_⟩
    · exact h.live0 n h1
    · exact h.live j hj n hl
  have hget : ∀ n x,sN.H.get n=some x→H.get n=some x:=fun n x hx => by
    rcases h.get n x hx with h1 | ⟨j,hj,h1,h3⟩
    · exact g.get0 n x h1
    · exact (g.blk j hj (hall j hj) n x h1 h3).1
  have hs : ∀ n,(sN.H.get n).isSome→(H.get n).isSome:=fun n hn => by
    obtain ⟨x,hx⟩:=Option.isSome_iff_exists.1 hn
    simp [hget n x hx]
  refine ⟨⟨fun b hb => ?_,by rw [hB]; exact Nat.le_trans hr0.base h.next,by rw [hB,← hHB]; exact g.rel.size,fun n hn => ?_,fun n hn => ?_,fun n x hx => ?_,fun n m hn hm => g.rel.inj n m (hs n hn) (hs m hm)⟩,?_,
    ⟨g.ext.same,h.next,h.live0,h.old,g.ext.size,g.ext.keep,fun n hn => g.ext.from_ n (hs n hn),g.ext.out,g.ext.os⟩⟩
  · rw [h.old,← g.ext.old]; exact g.rel.old b (by rw [hHB,← hB]; exact hb)
  · have:=g.rel.dom n (hs n hn)
    exact ⟨by rw [hB,← hHB]; exact this.1,hlive n this.2⟩
  · rcases h.lt n hn with h1 | ⟨j,hj,h1,h2⟩
    · exact Nat.lt_of_lt_of_le (hr0.lt n h1) h.next
    · exact Nat.lt_of_lt_of_le (g.liv j hj (hall j hj) n h1).2 h2
  · obtain ⟨h1,y,hy,hb⟩:=g.rel.own n x (hget n x hx)
    rw [hHB] at h1 hb
    rw [hB]
    exact ⟨h1,y,hy,hb.mono hlive fun _ _ => rfl⟩
  · rw [hB]
    refine ⟨⟨by rw [h.n]; exact g.size,fun t => ?_⟩,by rw [h.ds]; exact g.ds.mono h.live0 fun _ _ => rfl⟩
    rcases h.tmps t with h1 | ⟨h1,h2⟩ | ⟨j,hj,h1,h2⟩
    · exact .inl h1
    · rw [h1]; exact (g.tmp0 t fun j hj _ => h2 j hj).imp id fun r => r.mono h.live0 fun _ _ => rfl
    · rw [h2]; exact (g.val j hj (hall j hj) t h1).imp id fun r => r.mono (h.live j hj) fun _ _ => rfl

theorem tc_draw {id:Nat} {sN s' : St} {e:Exit} {tl:List Nat} (hm:P.follows .mixedOrders=true) (hup : ∀ i < ops.size,∀ k ∈ upon ops i,k < i) (hcov : ∀ i,i < ops.size ↔ i ∈ hd∨i ∈ tl) (hdj : ∀ i ∈ hd,i ∉ tl) (hnd:tl.Nodup)
    (hth : ∀ x ∈ tl,∀ j ∈ hd,∃ f,reachB (upon ops) f x j=true) (htt : ∀ a x b y c,tl=a++x :: b++y :: c→∃ f,reachB (upon ops) f y x=true)
    (hI : ∀ i ∈ hd,HOk P r ops (upon ops) s I hd i) (hN:HEnd ops s I hd sN) (ht:TO P r ops tl sN e s'):TC P r (.region id ops true) s e s':=by
  intro φ0 w00 a0 hr00 ha0 hrl
  refine wpIn_region_draw fun t => ?_
  simp only [Region.schedule,hm,Bool.true_or,if_true]
  generalize hw0 : ({ w00 with drawn:=w00.drawn + 1 } : World) = w0
  have hheap:w0.heap=w00.heap:=by rw [← hw0]
  have hr0:Rel φ0 s.H w0:=hr00.congr hheap
  have hx0:Ext φ0 φ0 s.H s.H w00 w0:=Ext.congr φ0 s.H hheap (by rw [← hw0]) (by rw [← hw0])
  have key : ∀ (fuel t:Nat) (listed:Array Bool) (a:Act) (w:World) (φ:Ph) (H:SH),HG ops s I hd φ0 w0 listed a w φ H→listed.size=ops.size→Closed (upon ops) listed→(∀ i,lsd listed i→i ∈ hd)→left ops.size listed ≤ fuel→
      wpOpsIn (fence r φ0) 0 P ops (Out φ0 s w0 e s') (Region.linearise.go .any ops fuel t listed []) a w:=by
    intro fuel
    induction fuel with
    | zero =>
      intro t listed a w φ H g hs hc hin hfuel
      have hall : ∀ i,i < ops.size→lsd listed i:=fun i hi => Classical.byContradiction fun hne => absurd (left_set hs hi hne) (by omega)
      have htl:tl=[]:=List.eq_nil_iff_forall_not_mem.2 fun x hx => hdj x (hin x (hall x ((hcov x).2 (.inr hx)))) hx
      obtain ⟨g1,g2,g3⟩:=g.fin hr0 (fun j hj => hall j ((hcov j).2 (.inl hj))) hN
      have h1:=ht φ w a g1 g2 fun l hl => hN.live0 l (hrl l hl)
      rw [htl] at h1
      exact Out.after g3 h1
    | succ fuel ih =>
      intro t listed a w φ H g hs hc hin hfuel
      by_cases hall : ∀ j ∈ hd,lsd listed j
      · obtain ⟨g1,g2,g3⟩:=g.fin hr0 hall hN
        have h1:=ht φ w a g1 g2 fun l hl => hN.live0 l (hrl l hl)
        rw [go_tail hup tl (fuel + 1) t listed hs hc (fun i hi => ⟨fun h => ((hcov i).1 hi).resolve_left fun h' => h (hall i h'),fun h h' => hdj i (hin i h') h⟩) hnd (fun i hi => (hcov i).2 (.inr hi)) htt hfuel]
        rw [show fence r φ=fence r φ0 from fence_eq hrl g.ext.same] at h1
        exact wpOps_mono (fun e2 a2 w2 ho2 => Out.after g3 ho2) _ _ _ h1
      · have hex : ∃ j,j ∈ hd∧¬ lsd listed j:=Classical.byContradiction fun hne => hall fun j hj => Classical.byContradiction fun h' => hne ⟨j,hj,h'⟩
        obtain ⟨j,hj,hjl⟩:=hex
        obtain ⟨i,t',hi,hgo⟩:=go_step hs hup ⟨j,(hcov j).2 (.inl hj),hjl⟩ fuel t
        rw [ready_upon hs] at hi
        obtain ⟨hi1,hi2,hi3⟩:=hi
        have hih:i ∈ hd:=by
          rcases (hcov i).1 hi1 with h | h
          · exact h
          · obtain ⟨f,hf⟩:=hth i h j hj
            exact absurd (reach_spec hc f i j hf hi3) hjl
        rw [hgo]
        refine g.step hr0 hrl hs hc hih hi2 hi1 hi3 (hI i hih) fun a' w' φ' H' g' _ _ => ih t' _ a' w' φ' H' g' (by simpa using hs) (closed_set (by omega) hc hi3) (fun k hk => ?_) ?_
        · rcases (lsd_set (by omega)).1 hk with rfl | hk
          · exact hih
          · exact hin k hk
        · have:=left_set hs hi1 hi2
          omega
  have hno : ∀ i,¬ lsd (Array.replicate ops.size false) i:=fun i h => by
    unfold lsd at h
    by_cases hi:i < ops.size <;> simp [Array.getD,hi] at h
  have h0:HG ops s I hd φ0 w0 (Array.replicate ops.size false) a0 w0 φ0 s.H :=
    ⟨hr0,.refl _ _ _,fun _ _ h => h,fun j _ h => absurd h (hno j),fun j _ h => absurd h (hno j),fun j _ h => absurd h (hno j),fun n h => .inl h,ha0.tmps.size,fun t _ => ha0.tmps.val t,ha0.defers⟩
  exact wpOps_mono (fun e2 a2 w2 ho2 => Out.after hx0 ho2) _ _ _ (key ops.size t _ a0 w0 φ0 s.H h0 (by simp) (fun i h => absurd h (hno i)) (fun i h => absurd h (hno i)) (by unfold left; exact Nat.le_trans (List.length_filter_le _ _) (by simp)))
end
end Go.Proofs.Orl

namespace Go.Proofs.Orl
open Go

inductive CK where
  | pure | al | bare
  deriving DecidableEq,Inhabited

structure CE where
  i:Nat
  p:Nat
  k:CK
  ks:List Nat
  v:Value
  H:SH
  deriving Inhabited

def hp (H0:SH):List CE→Nat→SH
  | [],_ => H0
  | e :: Es,p => bif Nat.blt Es.length p then e.H else hp H0 Es p

def genv (ops:Array Oper) (g0:List (Nat × Value)):List CE→List (Nat × Value)
  | [] => g0
  | e :: Es => match dstOf ops e.i with | some d => (d,e.v) :: genv ops g0 Es | none => genv ops g0 Es

def pickG (g:List (Nat × Value)) (ks:List Nat):List (Nat × Value):=ks.map fun t => (t,lk g t)

def bareH (s:St) (H:SH):SH:={ old:=H.old,next:=H.next,m:=.nil,live:=s.H.live }

def opSt (ops:Array Oper) (s:St) (Es:List CE) (ks:List Nat) (H:SH):St:=⟨pickG (genv ops s.g Es) ks,s.n,s.ds,H⟩

inductive Chain (P:Program) (r:Option Nat) (ops:Array Oper) (s:St):List CE→Prop
  | nil:Chain P r ops s []
  | pure {Es:List CE} (i p:Nat) (ks:List Nat) (v:Value) (H:SH):Chain P r ops s Es→p ≤ Es.length→H=hp s.H Es Es.length→StepO P r ops i (opSt ops s Es ks (hp s.H Es p)) v (hp s.H Es p)→
      Chain P r ops s (⟨i,p,.pure,ks,v,H⟩ :: Es)
  | al {Es:List CE} (i p:Nat) (ks:List Nat) (v:Value) (H:SH):Chain P r ops s Es→p=Es.length→StepO P r ops i (opSt ops s Es ks (hp s.H Es Es.length)) v H→Keep (hp s.H Es Es.length) H→
      Chain P r ops s (⟨i,p,.al,ks,v,H⟩ :: Es)
  | bare {Es:List CE} (i p:Nat) (ks:List Nat) (v:Value) (x:SBlk):Chain P r ops s Es→p=Es.length→StepO P r ops i (opSt ops s Es ks (bareH s (hp s.H Es Es.length))) v ((bareH s (hp s.H Es Es.length)).new x)→
      Chain P r ops s (⟨i,p,.bare,ks,v,(hp s.H Es Es.length).new x⟩ :: Es)

def CE.start (e:CE) (n:Nat):Nat:=match e.k with | .pure => e.p | _ => n
def CE.stop (e:CE) (n:Nat):Nat:=match e.k with | .pure => e.p | _ => n + 1

def CE.A (e:CE) (s:St) (Es:List CE):SH:=match e.k with | .pure => hp s.H Es e.p | .al => hp s.H Es Es.length | .bare => bareH s (hp s.H Es Es.length)
def CE.A' (e:CE) (s:St) (Es:List CE):SH:=match e.k with
  | .pure => hp s.H Es e.p
  | .al => e.H
  | .bare => { old:=e.H.old,next:=e.H.next,m:=Tr.nil.set (hp s.H Es Es.length).next (e.H.get (hp s.H Es Es.length).next),live:=fun n => s.H.live n∨n=(hp s.H Es Es.length).next }

def ancs (ms:List Nat) (i:Nat) (Es:List CE):List Nat:=(Es.map (·.i)).filter fun j => (ms.getD i 0).testBit j

def info (ops:Array Oper) (ms:List Nat) (s:St):List CE→Nat→HI
  | [],_ => default
  | e :: Es,i => if e.i=i then ⟨e.A s Es,pickG (genv ops s.g Es) e.ks,e.v,e.A' s Es,ancs ms i Es⟩ else info ops ms s Es i

def makes:List CE→Nat→List Nat
  | [],_ => []
  | e :: Es,p => if e.k ≠ .pure∧Es.length < p then e.i :: makes Es p else makes Es p

def lookCE:List CE→Nat→Option (Nat × CE)
  | [],_ => none
  | e :: Es,j => if e.i=j then some (Es.length,e) else lookCE Es j

def ckTmp (ops:Array Oper) (ms:List Nat) (hd:List Nat) (i p:Nat) (Es:List CE) (t:Nat):Bool :=
  match hd.find? (fun j => dstOf ops j == some t) with
  | none => true
  | some j => (ms.getD i 0).testBit j && match lookCE Es j with | some (q,e) => decide (e.stop q ≤ p) | none => false

def ckLink (ops:Array Oper) (ms:List Nat) (hd:List Nat) (e:CE) (Es:List CE):Bool :=
  match e.k with
  | .bare => e.ks.all (ckTmp ops ms hd e.i 0 Es)
  | _ => (makes Es e.p).all (fun j => (ms.getD e.i 0).testBit j) && e.ks.all (ckTmp ops ms hd e.i e.p Es)

def ckAll (ops:Array Oper) (ms:List Nat) (hd:List Nat):List CE→Bool
  | [] => true
  | e :: Es => ckAll ops ms hd Es && ckLink ops ms hd e Es

def ckMs (ops:Array Oper) (ms:List Nat):Bool :=
  (List.range ops.size).all fun i => (upon ops i).all (fun k => Nat.blt k i) && ms.getD i 0 == (upon ops i).foldl (fun m k => m ||| (2 ^ k ||| ms.getD k 0)) 0

def nodupB:List Nat→Bool
  | [] => true
  | x :: l => !l.contains x && nodupB l

def ckTail (ms:List Nat):List Nat→Bool
  | [] => true
  | x :: l => l.all (fun y => (ms.getD y 0).testBit x) && ckTail ms l

def ckSet (ops:Array Oper) (ms:List Nat) (hd tl:List Nat):Bool :=
  ckMs ops ms && nodupB (hd++tl) && (List.range ops.size).all (fun i => (hd++tl).contains i) && (hd++tl).all (fun i => Nat.blt i ops.size) &&
  tl.all (fun x => hd.all fun j => (ms.getD x 0).testBit j) && ckTail ms tl &&
  nodupB (hd.filterMap (dstOf ops))

section
variable {P:Program} {r:Option Nat} {ops:Array Oper} {s:St} {ms:List Nat} {hd:List Nat}

theorem mask_fold {ms:List Nat} : ∀ (l:List Nat) (m j:Nat),(l.foldl (fun m k => m ||| (2 ^ k ||| ms.getD k 0)) m).testBit j=true→m.testBit j=true∨∃ k ∈ l,k=j∨(ms.getD k 0).testBit j=true:=by
  intro l
  induction l with
  | nil => intro m j h; exact .inl h
  | cons k l ih =>
    intro m j h
    rcases ih _ j h with h1 | ⟨k',hk,h1⟩
    · simp only [Nat.testBit_or,Bool.or_eq_true] at h1
      rcases h1 with h1 | h1 | h1
      · exact .inl h1
      · rw [Nat.testBit_two_pow] at h1
        exact .inr ⟨k,by simp,.inl (by simpa using h1)⟩
      · exact .inr ⟨k,by simp,.inr h1⟩
    · exact .inr ⟨k',by simp [hk],h1⟩

theorem mask_reach (h:ckMs ops ms=true) : ∀ (i:Nat),i < ops.size→∀ j,(ms.getD i 0).testBit j=true→∃ f,reachB (upon ops) f i j=true:=by
  intro i
  induction i using Nat.strongRecOn with
  | _ i ih =>
    intro hi j hj
    simp only [ckMs,List.all_eq_true,List.mem_range,Bool.and_eq_true,beq_iff_eq] at h
    obtain ⟨h1,h2⟩:=h i hi
    rw [h2] at hj
    rcases mask_fold _ _ _ hj with h3 | ⟨k,hk,rfl | h3⟩
    · simp at h3
    · exact ⟨1,by simp only [reachB,List.any_eq_true,Bool.or_eq_true]; exact ⟨k,hk,.inl (Nat.beq_refl k)⟩⟩
    · have hki:=Nat.le_of_ble_eq_true (h1 k hk)
      obtain ⟨f,hf⟩:=ih k hki (by omega) j h3
      exact ⟨f + 1,by simp only [reachB,List.any_eq_true,Bool.or_eq_true]; exact ⟨k,hk,.inr hf⟩⟩

theorem hp_cons {e:CE} {Es:List CE} {p:Nat} (h:p ≤ Es.length):hp s.H (e :: Es) p=hp s.H Es p:=by
  have:Nat.blt Es.length p=false:=by rw [← Bool.not_eq_true,Nat.blt_eq]; omega
  simp [hp,this]
theorem hp_top {e:CE} {Es:List CE} : hp s.H (e :: Es) (Es.length + 1) = e.H:=by
  have:Nat.blt Es.length (Es.length + 1) = true:=by rw [Nat.blt_eq]; omega
  simp [hp,this]

theorem Chain.tail {e:CE} {Es:List CE} (h:Chain P r ops s (e :: Es)):Chain P r ops s Es:=by cases h <;> assumption

theorem Chain.keep1 {e:CE} {Es:List CE} (h:Chain P r ops s (e :: Es)):Keep (hp s.H Es Es.length) e.H:=by
  cases h with
  | pure i p ks v H h1 h2 h3 h4 => rw [h3]; exact .refl _
  | al i p ks v H h1 h2 h3 h4 => exact h4
  | bare i p ks v x h1 h2 h3 => exact (newF _ _).keep

theorem Chain.keepTo {Es:List CE} (h:Chain P r ops s Es) : ∀ q p,q ≤ p→p ≤ Es.length→Keep (hp s.H Es q) (hp s.H Es p):=by
  induction Es with
  | nil => intro q p h1 h2; exact .refl _
  | cons e Es ih =>
    intro q p h1 h2
    have hI:=ih h.tail
    by_cases hq:q ≤ Es.length
    · rw [hp_cons hq]
      by_cases hp' : p ≤ Es.length
      · rw [hp_cons hp']; exact hI q p h1 hp'
      · obtain rfl:p=Es.length + 1:=by simp at h2; omega
        rw [hp_top]
        exact (hI q Es.length hq (Nat.le_refl _)).trans h.keep1
    · obtain rfl:q=Es.length + 1:=by simp at h2; omega
      obtain rfl:p=Es.length + 1:=by simp at h2; omega
      exact .refl _

theorem hp_zero : ∀ Es:List CE,hp s.H Es 0=s.H:=by
  intro Es
  induction Es with
  | nil => rfl
  | cons e Es ih => rw [hp_cons (Nat.zero_le _)]; exact ih

theorem Chain.keep0 {Es:List CE} (h:Chain P r ops s Es) {p:Nat} (hp' : p ≤ Es.length):Keep s.H (hp s.H Es p):=by
  have:=h.keepTo 0 p (Nat.zero_le _) hp'
  rwa [hp_zero] at this

theorem hp_app {Fs:List CE} {q:Nat} (h:q ≤ Fs.length) : ∀ pre:List CE,hp s.H (pre++Fs) q=hp s.H Fs q:=by
  intro pre
  induction pre with
  | nil => rfl
  | cons e pre ih => rw [List.cons_append,hp_cons (by simp; omega)]; exact ih
theorem hp_at {f:CE} {Fs:List CE} (pre:List CE):hp s.H (pre++f :: Fs) (Fs.length + 1) = f.H:=by
  rw [hp_app (by simp)]; exact hp_top
theorem Chain.suffix {pre Es:List CE} (h:Chain P r ops s (pre++Es)):Chain P r ops s Es:=by
  induction pre with
  | nil => exact h
  | cons e pre ih => exact ih h.tail

theorem info_app {e:CE} {Es:List CE} : ∀ pre:List CE,(∀ f ∈ pre,f.i ≠ e.i)→info ops ms s (pre++e :: Es) e.i=⟨e.A s Es,pickG (genv ops s.g Es) e.ks,e.v,e.A' s Es,ancs ms e.i Es⟩:=by
  intro pre
  induction pre with
  | nil => intro _; simp [info]
  | cons f pre ih =>
    intro h
    have h1:=h f (by simp)
    simp only [List.cons_append,info,if_neg h1]
    exact ih fun g hg => h g (by simp [hg])

theorem bare_eq {i p:Nat} {ks:List Nat} {v:Value} {x:SBlk} {Es:List CE} : (CE.mk i p .bare ks v ((hp s.H Es Es.length).new x)).A' s Es=(bareH s (hp s.H Es Es.length)).new x:=by
  simp [CE.A',bareH,SH.new,SH.get,Tr.get_set]

theorem Chain.bounds {e:CE} {pre Es:List CE} (h:Chain P r ops s (pre++e :: Es)):e.stop Es.length ≤ (pre++e :: Es).length∧(e.A s Es).next=(hp s.H (pre++e :: Es) (e.start Es.length)).next∧(e.A' s Es).next=(hp s.H (pre++e :: Es) (e.stop Es.length)).next:=by
  have hc:=h.suffix
  cases hc with
  | pure i p ks v H h1 h2 h3 h4 =>
    refine ⟨by simp [CE.stop]; omega,?_,?_⟩ <;> simp only [CE.start,CE.stop,CE.A,CE.A'] <;> rw [hp_app (by simp; omega),hp_cons h2]
  | al i p ks v H h1 h2 h3 h4 =>
    refine ⟨by simp [CE.stop],?_,?_⟩
    · simp only [CE.start,CE.A]; rw [hp_app (by simp),hp_cons (Nat.le_refl _)]
    · simp only [CE.stop,CE.A']; rw [hp_at]
  | bare i p ks v x h1 h2 h3 =>
    refine ⟨by simp [CE.stop],?_,?_⟩
    · simp only [CE.start,CE.A]; rw [hp_app (by simp),hp_cons (Nat.le_refl _)]; rfl
    · simp only [CE.stop]; rw [hp_at]; rfl

theorem Chain.liveA' {f:CE} {pre Fs:List CE} (h:Chain P r ops s (pre++f :: Fs)) {p:Nat} (hp1:f.stop Fs.length ≤ p) (hp2:p ≤ (pre++f :: Fs).length) {m:Nat} (hm : (f.A' s Fs).live m) : (hp s.H (pre++f :: Fs) p).live m:=by
  have hk:=h.keepTo (f.stop Fs.length) p hp1 hp2
  refine hk.live m ?_
  have hc:=h.suffix
  cases hc with
  | pure i p ks v H h1 h2 h3 h4 =>
    simp only [CE.stop,CE.A'] at hm ⊢
    rw [hp_app (by simp; omega),hp_cons h2]; exact hm
  | al i p ks v H h1 h2 h3 h4 =>
    simp only [CE.stop,CE.A'] at hm ⊢
    rw [hp_at]; exact hm
  | bare i p ks v x h1 h2 h3 =>
    rw [bare_eq] at hm
    simp only [CE.stop]
    rw [hp_at]
    rcases hm with hm | hm
    · exact .inl ((h1.keep0 (Nat.le_refl _)).live m hm)
    · exact .inr hm

theorem Chain.getA {Es:List CE} (h:Chain P r ops s Es) : ∀ (p:Nat),p ≤ Es.length→∀ n x,(hp s.H Es p).get n=some x→s.H.get n=some x∨∃ pre f Fs,Es=pre++f :: Fs∧f.k ≠ .pure∧Fs.length < p∧(f.A s Fs).next ≤ n∧(f.A' s Fs).get n=some x:=by
  induction Es with
  | nil => intro p hp' n x hx; exact .inl hx
  | cons e Es ih =>
    intro p hp' n x hx
    have low : ∀ q,q ≤ Es.length→q ≤ p→(hp s.H Es q).get n=some x→s.H.get n=some x∨∃ pre f Fs,e :: Es=pre++f :: Fs∧f.k ≠ .pure∧Fs.length < p∧(f.A s Fs).next ≤ n∧(f.A' s Fs).get n=some x:=fun q hq hqp hx' => by
      rcases ih h.tail q hq n x hx' with h1 | ⟨pre,f,Fs,h1,h2,h3,h4⟩
      · exact .inl h1
      · exact .inr ⟨e :: pre,f,Fs,by rw [h1]; rfl,h2,by omega,h4⟩
    by_cases hq:p ≤ Es.length
    · rw [hp_cons hq] at hx
      exact low p hq (Nat.le_refl _) hx
    · obtain rfl:p=Es.length + 1:=by simp at hp'; omega
      rw [hp_top] at hx
      cases h with
      | pure i p ks v H h1 h2 h3 h4 => rw [h3] at hx; exact low _ (Nat.le_refl _) (by omega) hx
      | al i p ks v H h1 h2 h3 h4 =>
        by_cases hn:n < (hp s.H Es Es.length).next
        · rw [h4.get n hn] at hx; exact low _ (Nat.le_refl _) (by omega) hx
        · exact .inr ⟨[],_,Es,rfl,by simp,by omega,by simp only [CE.A]; omega,hx⟩
      | bare i p ks v x0 h1 h2 h3 =>
        by_cases hn:n=(hp s.H Es Es.length).next
        · refine .inr ⟨[],_,Es,rfl,by simp,by omega,by simp only [CE.A,bareH]; omega,?_⟩
          rw [bare_eq,SH.get_new]
          rw [SH.get_new] at hx
          have : (bareH s (hp s.H Es Es.length)).next=(hp s.H Es Es.length).next:=rfl
          rw [this]; exact (by simpa [hn] using hx)
        · rw [SH.get_new,if_neg hn] at hx; exact low _ (Nat.le_refl _) (by omega) hx

theorem Chain.liveA {Es:List CE} (h:Chain P r ops s Es) : ∀ (p:Nat),p ≤ Es.length→∀ n,(hp s.H Es p).live n→s.H.live n∨∃ pre f Fs,Es=pre++f :: Fs∧f.k ≠ .pure∧Fs.length < p∧(f.A' s Fs).live n:=by
  induction Es with
  | nil => intro p hp' n hx; exact .inl hx
  | cons e Es ih =>
    intro p hp' n hx
    have low : ∀ q,q ≤ Es.length→q ≤ p→(hp s.H Es q).live n→s.H.live n∨∃ pre f Fs,e :: Es=pre++f :: Fs∧f.k ≠ .pure∧Fs.length < p∧(f.A' s Fs).live n:=fun q hq hqp hx' => by
      rcases ih h.tail q hq n hx' with h1 | ⟨pre,f,Fs,h1,h2,h3,h4⟩
      · exact .inl h1
      · exact .inr ⟨e :: pre,f,Fs,by rw [h1]; rfl,h2,by omega,h4⟩
    by_cases hq:p ≤ Es.length
    · rw [hp_cons hq] at hx
      exact low p hq (Nat.le_refl _) hx
    · obtain rfl:p=Es.length + 1:=by simp at hp'; omega
      rw [hp_top] at hx
      cases h with
      | pure i p ks v H h1 h2 h3 h4 => rw [h3] at hx; exact low _ (Nat.le_refl _) (by omega) hx
      | al i p ks v H h1 h2 h3 h4 => exact .inr ⟨[],_,Es,rfl,by simp,by omega,hx⟩
      | bare i p ks v x0 h1 h2 h3 =>
        rcases hx with hx | hx
        · exact low _ (Nat.le_refl _) (by omega) hx
        · refine .inr ⟨[],_,Es,rfl,by simp,by omega,?_⟩
          rw [bare_eq]; exact .inr hx

theorem lk_pick {g:List (Nat × Value)} {t:Nat} : ∀ ks:List Nat,lk (pickG g ks) t=undef∨(t ∈ ks∧lk (pickG g ks) t=lk g t):=by
  intro ks
  induction ks with
  | nil => exact .inl rfl
  | cons k ks ih =>
    simp only [pickG,List.map_cons,lk_cons]
    by_cases e:k=t
    · subst e; exact .inr ⟨by simp,by simp⟩
    · rw [if_neg e]
      rcases ih with h | ⟨h1,h2⟩
      · exact .inl h
      · exact .inr ⟨by simp [h1],h2⟩

theorem genv_none {t:Nat} {g0:List (Nat × Value)} : ∀ Es:List CE,(∀ f ∈ Es,dstOf ops f.i ≠ some t)→lk (genv ops g0 Es) t=lk g0 t:=by
  intro Es
  induction Es with
  | nil => intro _; rfl
  | cons e Es ih =>
    intro h
    have h1:=h e (by simp)
    have h2:=ih fun f hf => h f (by simp [hf])
    simp only [genv]
    cases hd:dstOf ops e.i with
    | none => exact h2
    | some d =>
      simp only [lk_cons]
      rw [if_neg (fun e' => h1 (by rw [hd,e']))]
      exact h2
theorem genv_some {t:Nat} {g0:List (Nat × Value)} {f:CE} {Fs:List CE} (hf:dstOf ops f.i=some t) : ∀ pre:List CE,(∀ f ∈ pre,dstOf ops f.i ≠ some t)→lk (genv ops g0 (pre++f :: Fs)) t=f.v:=by
  intro pre
  induction pre with
  | nil => intro _; simp [genv,hf,lk_cons]
  | cons e pre ih =>
    intro h
    have h1:=h e (by simp)
    have h2:=ih fun f hf => h f (by simp [hf])
    simp only [List.cons_append,genv]
    cases hd:dstOf ops e.i with
    | none => exact h2
    | some d =>
      simp only [lk_cons]
      rw [if_neg (fun e' => h1 (by rw [hd,e']))]
      exact h2

theorem nodupB_spec : ∀ l:List Nat,nodupB l=true→l.Nodup:=by
  intro l
  induction l with
  | nil => intro _; exact List.nodup_nil
  | cons x l ih =>
    intro h
    simp only [nodupB,Bool.and_eq_true,Bool.not_eq_true',List.contains_eq_mem,decide_eq_false_iff_not] at h
    exact List.nodup_cons.2 ⟨h.1,ih h.2⟩

theorem mem_makes {f:CE} {p:Nat} : ∀ (pre Fs:List CE),f.k ≠ .pure→Fs.length < p→f.i ∈ makes (pre++f :: Fs) p:=by
  intro pre
  induction pre with
  | nil => intro Fs h1 h2; simp [makes,h1,h2]
  | cons e pre ih =>
    intro Fs h1 h2
    simp only [List.cons_append,makes]
    split
    · exact List.mem_cons_of_mem _ (ih Fs h1 h2)
    · exact ih Fs h1 h2

theorem look_spec {j q:Nat} {f:CE} : ∀ Es:List CE,lookCE Es j=some (q,f)→f.i=j∧∃ pre Fs,Es=pre++f :: Fs∧Fs.length=q:=by
  intro Es
  induction Es with
  | nil => intro h; simp [lookCE] at h
  | cons e Es ih =>
    intro h
    simp only [lookCE] at h
    split at h
    · rename_i he
      cases h
      exact ⟨he,[],Es,rfl,rfl⟩
    · obtain ⟨h1,pre,Fs,h2,h3⟩:=ih h
      exact ⟨h1,e :: pre,Fs,by rw [h2]; rfl,h3⟩

theorem ckAll_spec {Es:List CE} {e:CE} : ∀ pre:List CE,ckAll ops ms hd (pre++e :: Es) = true→ckLink ops ms hd e Es=true:=by
  intro pre
  induction pre with
  | nil => intro h; simp only [List.nil_append,ckAll,Bool.and_eq_true] at h; exact h.2
  | cons f pre ih => intro h; simp only [List.cons_append,ckAll,Bool.and_eq_true] at h; exact ih h.1

theorem place_eq {e f:CE} {pre Es pre' Fs:List CE} (hn : ((pre++e :: Es).map (·.i)).Nodup) (h:pre++e :: Es=pre'++f :: Fs) (hne:f.i ≠ e.i):Es.length ≠ Fs.length:=by
  intro hl
  have h2 : (e :: Es) = f :: Fs:=by
    have:=List.append_inj_right' h (by simp [hl])
    exact this
  cases h2
  exact hne rfl

theorem dst_inj {hd:List Nat} (h:nodupB (hd.filterMap (dstOf ops)) = true) {i j t:Nat} (hi:i ∈ hd) (hj:j ∈ hd) (hit:dstOf ops i=some t) (hjt:dstOf ops j=some t) (hnd:hd.Nodup):i=j:=by
  have h:=nodupB_spec _ h
  induction hd with
  | nil => cases hi
  | cons x l ih =>
    have hnd':=List.nodup_cons.1 hnd
    have mem : ∀ k ∈ l,dstOf ops k=some t→t ∈ l.filterMap (dstOf ops):=fun k hk hkt => List.mem_filterMap.2 ⟨k,hk,hkt⟩
    cases hx:dstOf ops x with
    | none =>
      rw [List.filterMap_cons_none hx] at h
      have hi' : i ∈ l:=(List.mem_cons.1 hi).resolve_left fun e => by rw [e,hx] at hit; cases hit
      have hj' : j ∈ l:=(List.mem_cons.1 hj).resolve_left fun e => by rw [e,hx] at hjt; cases hjt
      have h' : nodupB (l.filterMap (dstOf ops)) = true:=by
        rename_i h0
        rwa [List.filterMap_cons_none hx] at h0
      exact ih h' hi' hj' hnd'.2 h
    | some d =>
      rw [List.filterMap_cons_some hx] at h
      have h1:=List.nodup_cons.1 h
      have h' : nodupB (l.filterMap (dstOf ops)) = true:=by
        rename_i h0
        rw [List.filterMap_cons_some hx] at h0
        simp only [nodupB,Bool.and_eq_true] at h0
        exact h0.2
      rcases List.mem_cons.1 hi with rfl | hi' <;> rcases List.mem_cons.1 hj with rfl | hj'
      · rfl
      · rw [hx] at hit; cases hit; exact absurd (mem j hj' hjt) h1.1
      · rw [hx] at hjt; cases hjt; exact absurd (mem i hi' hit) h1.1
      · exact ih h' hi' hj' hnd'.2 h1.2

theorem draw_core {tl:List Nat} {Es:List CE} (ms:List Nat) (hC:Chain P r ops s Es) (c1:ckMs ops ms=true) (c2:nodupB (Es.map (·.i)++tl) = true) (c4 : (Es.map (·.i)++tl).all (fun i => Nat.blt i ops.size) = true) (c7:nodupB ((Es.map (·.i)).filterMap (dstOf ops)) = true) (h2:ckAll ops ms (Es.map (·.i)) Es=true) :
    (∀ i ∈ Es.map (·.i),HOk P r ops (upon ops) s (info ops ms s Es) (Es.map (·.i)) i)∧HEnd ops s (info ops ms s Es) (Es.map (·.i)) ⟨genv ops s.g Es,s.n,s.ds,hp s.H Es Es.length⟩∧
      (∀ {e:CE} {pre Fs:List CE},Es=pre++e :: Fs→info ops ms s Es e.i=⟨e.A s Fs,pickG (genv ops s.g Fs) e.ks,e.v,e.A' s Fs,ancs ms e.i Fs⟩):=by
  generalize hhd:Es.map (·.i) = hd at c2 c4 c7 h2
  have hnd:=nodupB_spec _ c2
  have hnd1:hd.Nodup:=(List.nodup_append.1 hnd).1
  have hlt : ∀ i ∈ hd++tl,i < ops.size:=fun i hi => Nat.le_of_ble_eq_true (List.all_eq_true.1 c4 i hi)
  have hmemE : ∀ {e:CE} {pre Fs:List CE},Es=pre++e :: Fs→e.i ∈ hd:=fun {e pre Fs} h => by rw [← hhd,h]; simp
  have hidx : ∀ {e:CE} {pre Fs:List CE},Es=pre++e :: Fs→(∀ f ∈ pre,f.i ≠ e.i):=fun {e pre Fs} h f hf he => by
    rw [← hhd,h,List.map_append,List.map_cons,List.nodup_append] at hnd1
    exact hnd1.2.2 f.i (List.mem_map.2 ⟨f,hf,rfl⟩) e.i (by simp) he
  have hinfo : ∀ {e:CE} {pre Fs:List CE},Es=pre++e :: Fs→info ops ms s Es e.i=⟨e.A s Fs,pickG (genv ops s.g Fs) e.ks,e.v,e.A' s Fs,ancs ms e.i Fs⟩:=fun {e pre Fs} h => by rw [h]; exact info_app pre (hidx h)
  have hdec : ∀ j ∈ hd,∃ pre f Fs,Es=pre++f :: Fs∧f.i=j:=fun j hj => by
    rw [← hhd] at hj
    obtain ⟨f,hf,e⟩:=List.mem_map.1 hj
    obtain ⟨pre,Fs,h⟩:=List.append_of_mem hf
    exact ⟨pre,f,Fs,h,e⟩
  have hdup : ∀ {i j t:Nat},i ∈ hd→j ∈ hd→dstOf ops i=some t→dstOf ops j=some t→i=j:=fun hi hj a b => dst_inj c7 hi hj a b hnd1
  -- what a temporary is worth
  have htmp : ∀ {e:CE} {pre Fs:List CE} {p:Nat},Es=pre++e :: Fs→∀ t,ckTmp ops ms hd e.i p Fs t=true→(lk (genv ops s.g Fs) t=lk s.g t∧∀ j ∈ hd,dstOf ops j ≠ some t)∨
      ∃ pre' f Gs,Fs=pre'++f :: Gs∧(ms.getD e.i 0).testBit f.i=true∧dstOf ops f.i=some t∧lk (genv ops s.g Fs) t=f.v∧f.stop Gs.length ≤ p:=fun {e pre Fs p} h t hck => by
    unfold ckTmp at hck
    cases hf:hd.find? (fun j => dstOf ops j == some t) with
    | none =>
      have hno : ∀ j ∈ hd,dstOf ops j ≠ some t:=fun j hj => by simpa using List.find?_eq_none.1 hf j hj
      exact .inl ⟨genv_none Fs fun f hf => hno f.i (by rw [← hhd,h]; simp [List.mem_map]; exact .inr (.inr ⟨f,hf,rfl⟩)),hno⟩
    | some j =>
      rw [hf] at hck
      simp only [Bool.and_eq_true] at hck
      obtain ⟨k1,k2⟩:=hck
      have hj:=List.mem_of_find?_eq_some hf
      have hjt:dstOf ops j=some t:=by simpa using List.find?_some hf
      cases hl:lookCE Fs j with
      | none => rw [hl] at k2; cases k2
      | some qf =>
        obtain ⟨q,f⟩:=qf
        rw [hl] at k2
        obtain ⟨e1,pre',Gs,e2,e3⟩:=look_spec Fs hl
        subst e1 e3
        refine .inr ⟨pre',f,Gs,e2,k1,hjt,?_,by simpa using k2⟩
        rw [e2]
        refine genv_some hjt pre' fun g hg hgt => ?_
        have hEs:Es=(pre++e :: pre')++f :: Gs:=by rw [h,e2]; simp
        have hgm:g.i ∈ hd:=by rw [← hhd,hEs]; simp [List.mem_map]; exact .inr (.inr (.inl ⟨g,hg,rfl⟩))
        exact hidx hEs g (by simp [hg]) (hdup hgm (hmemE hEs) hgt hjt)
  have hOk : ∀ i ∈ hd,HOk P r ops (upon ops) s (info ops ms s Es) hd i:=fun i hi => by
    obtain ⟨pre,e,Fs,hE,rfl⟩:=hdec i hi
    have hCe:Chain P r ops s (pre++e :: Fs):=hE ▸ hC
    have hCs:=hCe.suffix
    have hb:=hCe.bounds
    have hck:ckLink ops ms hd e Fs=true:=ckAll_spec pre (hE ▸ h2)
    have hin:=hinfo hE
    have hanc : ∀ {f:CE} {pre' Gs:List CE},Fs=pre'++f :: Gs→(ms.getD e.i 0).testBit f.i=true→f.i ∈ ancs ms e.i Fs:=fun {f pre' Gs} h hb => by
      unfold ancs
      rw [List.mem_filter]
      exact ⟨by rw [h]; simp,hb⟩
    have hEf : ∀ {f:CE} {pre' Gs:List CE},Fs=pre'++f :: Gs→Es=(pre++e :: pre')++f :: Gs:=fun {f pre' Gs} h => by rw [hE,h]; simp
    -- the parts that all kinds have in common
    have canc : ∀ j ∈ ancs ms e.i Fs,j ∈ hd∧∃ f,reachB (upon ops) f e.i j=true:=fun j hj => by
      unfold ancs at hj
      rw [List.mem_filter] at hj
      refine ⟨?_,mask_reach c1 e.i (hlt _ (by simp [hi])) j hj.2⟩
      rw [← hhd,hE]; simp only [List.map_append,List.map_cons,List.mem_append,List.mem_cons]; exact .inr (.inr hj.1)
    have capart : ∀ j ∈ hd,j ≠ e.i→(info ops ms s Es e.i).A'.next ≤ (info ops ms s Es j).A.next∨(info ops ms s Es j).A'.next ≤ (info ops ms s Es e.i).A.next:=fun j hj hne => by
      obtain ⟨pre2,f,Gs,hF,rfl⟩:=hdec j hj
      have hCf:Chain P r ops s (pre2++f :: Gs):=hF ▸ hC
      have hb2:=hCf.bounds
      rw [hin,hinfo hF]
      simp only []
      rw [hb.2.1,hb.2.2,hb2.2.1,hb2.2.2,← hE,← hF]
      have hl:Fs.length ≠ Gs.length:=place_eq (by rw [← hE,hhd]; exact hnd1) (hE.symm.trans hF) hne
      have b1:=hb.1
      have b2:=hb2.1
      rw [← hE] at b1
      rw [← hF] at b2
      have hmono : ∀ a b,a ≤ b→b ≤ Es.length→(hp s.H Es a).next ≤ (hp s.H Es b).next:=fun a b h h' => (hC.keepTo a b h h').next
      have hp1:e.start Fs.length ≤ Es.length:=by
        have:e.start Fs.length ≤ e.stop Fs.length:=by unfold CE.start CE.stop; split <;> omega
        omega
      have hp2:f.start Gs.length ≤ Es.length:=by
        have:f.start Gs.length ≤ f.stop Gs.length:=by unfold CE.start CE.stop; split <;> omega
        omega
      have hcase:e.stop Fs.length ≤ f.start Gs.length∨f.stop Gs.length ≤ e.start Fs.length:=by
        unfold CE.start CE.stop
        cases e.k <;> cases f.k <;> simp only [] <;> omega
      rcases hcase with h | h
      · exact .inl (hmono _ _ h hp2)
      · exact .inr (hmono _ _ h hp1)
    have cdst : ∀ j ∈ hd,j ≠ e.i→∀ t,dstOf ops e.i=some t→dstOf ops j ≠ some t:=fun j hj hne t ht hjt => hne (hdup hj hi hjt ht)
    -- of a heap of the chain
    have full : ∀ (p:Nat) (A' : SH),p ≤ Fs.length→(makes Fs p).all (fun j => (ms.getD e.i 0).testBit j) = true→e.ks.all (ckTmp ops ms hd e.i p Fs) = true→e.A s Fs=hp s.H Fs p→e.A' s Fs=A'→
        StepO P r ops e.i (opSt ops s Fs e.ks (hp s.H Fs p)) e.v A'→Adds (hp s.H Fs p) A'→HOk P r ops (upon ops) s (info ops ms s Es) hd e.i:=fun p A' hpl hmk hks hA hA' hst hadd => by
      have hCF:=hCs.tail
      have hk0:=hCF.keep0 hpl
      have mono : ∀ {f:CE} {pre' Gs:List CE},Fs=pre'++f :: Gs→f.stop Gs.length ≤ p→∀ m,(f.A' s Gs).live m→(hp s.H Fs p).live m:=fun {f pre' Gs} h hle m hm => by
        have hc' : Chain P r ops s (pre'++f :: Gs):=h ▸ hCF
        have:=hc'.liveA' hle (by rw [← h]; exact hpl) hm
        rwa [← h] at this
      have stop1 : ∀ {f:CE} {n:Nat},f.k ≠ .pure→f.stop n=n + 1:=fun {f n} h => by unfold CE.stop; cases hk:f.k <;> simp_all
      refine ⟨?_,?_,?_,?_,fun n x hx => ?_,fun n hn => ?_,fun n hn => ?_,fun t => ?_,?_,capart,cdst⟩ <;> (try rw [hin] at *) <;> (try simp only [hA,hA'] at *)
      · exact hst
      · exact hadd
      · exact hk0.old
      · exact hk0.next
      · rcases hCF.getA p hpl n x hx with h | ⟨pre',f,Gs,h,h3,h4,h5,h6⟩
        · exact .inl h
        · have hbit : (ms.getD e.i 0).testBit f.i=true:=List.all_eq_true.1 hmk f.i (by rw [h]; exact mem_makes pre' Gs h3 h4)
          refine .inr ⟨f.i,hanc h hbit,?_⟩
          rw [hinfo (hEf h)]
          exact ⟨h5,h6,mono h (by rw [stop1 h3]; omega)⟩
      · exact hk0.live n hn
      · rcases hCF.liveA p hpl n hn with h | ⟨pre',f,Gs,h,h3,h4,h6⟩
        · exact .inl h
        · have hbit : (ms.getD e.i 0).testBit f.i=true:=List.all_eq_true.1 hmk f.i (by rw [h]; exact mem_makes pre' Gs h3 h4)
          refine .inr ⟨f.i,hanc h hbit,?_⟩
          rw [hinfo (hEf h)]
          refine ⟨h6,?_⟩
          have hc' : Chain P r ops s (pre'++f :: Gs):=h ▸ hCF
          show (f.A' s Gs).next ≤ _
          rw [hc'.bounds.2.2,← h]
          exact (hCF.keepTo _ _ (by rw [stop1 h3]; omega) hpl).next
      · rcases lk_pick (g:=genv ops s.g Fs) (t:=t) e.ks with h | ⟨h,h'⟩
        · exact .inl h
        · rcases htmp hE t (List.all_eq_true.1 hks t h) with h3 | ⟨pre',f,Gs,h3,h4,h5,h6,h7⟩
          · exact .inr (.inl ⟨h'.trans h3.1,h3.2⟩)
          · refine .inr (.inr ⟨f.i,hanc h3 h4,h5,?_⟩)
            rw [hinfo (hEf h3)]
            exact ⟨h'.trans h6,mono h3 h7⟩
      · exact canc
    cases hCs with
    | pure i p ks v H g1 g2 g3 g4 =>
      simp only [ckLink,Bool.and_eq_true] at hck
      exact full p _ g2 hck.1 hck.2 rfl rfl g4 ⟨fun n x _ h => h,fun n h => .inl h⟩
    | al i p ks v H g1 g2 g3 g4 =>
      simp only [ckLink,Bool.and_eq_true] at hck
      subst g2
      exact full Fs.length H (Nat.le_refl _) hck.1 hck.2 rfl rfl g3 ⟨fun n x hn h => by rw [g4.get n hn]; exact h,g4.new⟩
    | bare i p ks v x g1 g2 g3 =>
      have hk0:=g1.keep0 (Nat.le_refl _)
      simp only [ckLink] at hck
      have nolive : ∀ {f:CE} {pre' Gs:List CE},Fs=pre'++f :: Gs→f.stop Gs.length ≤ 0→∀ m,(f.A' s Gs).live m→s.H.live m:=fun {f pre' Gs} h hle m hm => by
        have hc' : Chain P r ops s (pre'++f :: Gs):=h ▸ g1
        have:=hc'.liveA' hle (Nat.zero_le _) hm
        rwa [hp_zero] at this
      have hA':=bare_eq (s:=s) (i:=i) (p:=p) (ks:=ks) (v:=v) (x:=x) (Es:=Fs)
      refine ⟨?_,?_,?_,?_,fun n y hy => ?_,fun n hn => ?_,fun n hn => ?_,fun t => ?_,?_,capart,cdst⟩ <;> (try rw [hin] at *) <;> (try simp only [hA'] at *)
      · exact g3
      · exact ⟨fun n y hn h => by simp [CE.A,bareH,SH.get,Tr.get] at h,fun n h => by
          rcases h with h | h
          · exact .inl h
          · exact .inr (Nat.le_of_eq h.symm)⟩
      · exact hk0.old
      · exact hk0.next
      · simp [CE.A,bareH,SH.get,Tr.get] at hy
      · exact hn
      · exact .inl hn
      · rcases lk_pick (g:=genv ops s.g Fs) (t:=t) ks with h | ⟨h,h'⟩
        · exact .inl h
        · rcases htmp hE t (List.all_eq_true.1 hck t h) with h3 | ⟨pre',f,Gs,h3,h4,h5,h6,h7⟩
          · exact .inr (.inl ⟨h'.trans h3.1,h3.2⟩)
          · refine .inr (.inr ⟨f.i,hanc h3 h4,h5,?_⟩)
            rw [hinfo (hEf h3)]
            exact ⟨h'.trans h6,nolive h3 h7⟩
      · exact canc
  have hEnd:HEnd ops s (info ops ms s Es) hd ⟨genv ops s.g Es,s.n,s.ds,hp s.H Es Es.length⟩:=by
    have hk0:=hC.keep0 (Nat.le_refl _)
    refine ⟨rfl,rfl,hk0.old,hk0.next,fun n x hx => ?_,fun n hn => hk0.live n hn,fun j hj n hn => ?_,fun n hn => ?_,fun t => ?_⟩
    · rcases hC.getA _ (Nat.le_refl _) n x hx with h | ⟨pre',f,Gs,h,h3,h4,h5,h6⟩
      · exact .inl h
      · refine .inr ⟨f.i,hmemE h,?_⟩
        rw [hinfo h]; exact ⟨h5,h6⟩
    · obtain ⟨pre,f,Gs,h,rfl⟩:=hdec j hj
      rw [hinfo h] at hn
      have hc' : Chain P r ops s (pre++f :: Gs):=h ▸ hC
      have:=hc'.liveA' (p:=Es.length) (by rw [h]; exact hc'.bounds.1) (by rw [h]; exact Nat.le_refl _) hn
      rwa [← h] at this
    · rcases hC.liveA _ (Nat.le_refl _) n hn with h | ⟨pre',f,Gs,h,h3,h4,h6⟩
      · exact .inl h
      · refine .inr ⟨f.i,hmemE h,?_⟩
        rw [hinfo h]
        refine ⟨h6,?_⟩
        have hc' : Chain P r ops s (pre'++f :: Gs):=h ▸ hC
        show (f.A' s Gs).next ≤ _
        rw [hc'.bounds.2.2,← h]
        exact (hC.keepTo _ _ (by rw [h]; exact hc'.bounds.1) (Nat.le_refl _)).next
    · by_cases hex : ∃ j ∈ hd,dstOf ops j=some t
      · obtain ⟨j,hj,hjt⟩:=hex
        obtain ⟨pre,f,Gs,h,rfl⟩:=hdec j hj
        refine .inr (.inr ⟨f.i,hj,hjt,?_⟩)
        rw [hinfo h]
        show lk (genv ops s.g Es) t=f.v
        rw [h]
        exact genv_some hjt pre fun g hg hgt => hidx h g hg (hdup (by rw [← hhd,h]; simp [List.mem_map]; exact .inl ⟨g,hg,rfl⟩) hj hgt hjt)
      · have hno : ∀ j ∈ hd,dstOf ops j ≠ some t:=fun j hj h => hex ⟨j,hj,h⟩
        exact .inr (.inl ⟨genv_none Es fun f hf => hno f.i (by rw [← hhd]; exact List.mem_map.2 ⟨f,hf,rfl⟩),hno⟩)
  exact ⟨hOk,hEnd,hinfo⟩

theorem w_draw {id:Nat} {tl:List Nat} {Es:List CE} {Q:Exit→St→Prop} (hm:P.follows .mixedOrders=true) (ms:List Nat) (hC:Chain P r ops s Es) (h1:ckSet ops ms (Es.map (·.i)) tl=true) (h2:ckAll ops ms (Es.map (·.i)) Es=true)
    (ht:WO P r ops tl Q ⟨genv ops s.g Es,s.n,s.ds,hp s.H Es Es.length⟩):W P r (.region id ops true) Q s:=by
  obtain ⟨hOk,hEnd,_⟩ : _∧_∧_:=by
    simp only [ckSet,Bool.and_eq_true] at h1
    obtain ⟨⟨⟨⟨⟨⟨c1,c2⟩,c3⟩,c4⟩,c5⟩,c6⟩,c7⟩:=h1
    exact draw_core (tl:=tl) ms hC c1 c2 c4 c7 h2
  generalize Es.map (·.i) = hd at h1 h2 hOk hEnd
  simp only [ckSet,Bool.and_eq_true] at h1
  obtain ⟨⟨⟨⟨⟨⟨c1,c2⟩,c3⟩,c4⟩,c5⟩,c6⟩,c7⟩:=h1
  have hnd:=nodupB_spec _ c2
  have hlt : ∀ i ∈ hd++tl,i < ops.size:=fun i hi => Nat.le_of_ble_eq_true (List.all_eq_true.1 c4 i hi)
  obtain ⟨e,s',ht1,hq⟩:=ht
  refine ⟨e,s',tc_draw (hd:=hd) (tl:=tl) hm ?_ ?_ ?_ (List.nodup_append.1 hnd).2.1 ?_ ?_ hOk hEnd ht1,hq⟩
  · intro i hi k hk
    simp only [ckMs,List.all_eq_true,List.mem_range,Bool.and_eq_true] at c1
    exact Nat.le_of_ble_eq_true ((c1 i hi).1 k hk)
  · intro i
    constructor
    · intro hi
      have:=List.all_eq_true.1 c3 i (by simpa using hi)
      simpa using this
    · intro h; exact hlt i (by simpa using h)
  · exact fun i hi hi' => (List.nodup_append.1 hnd).2.2 i hi i hi' rfl
  · intro x hx j hj
    exact mask_reach c1 x (hlt x (by simp [hx])) j (List.all_eq_true.1 (List.all_eq_true.1 c5 x hx) j hj)
  · intro a x b y c htl
    have hy:y < ops.size:=hlt y (by rw [htl]; simp)
    refine mask_reach c1 y hy x ?_
    rw [htl] at c6
    clear htl hq ht1
    induction a with
    | nil =>
      simp only [List.nil_append,List.cons_append,ckTail,Bool.and_eq_true] at c6
      exact List.all_eq_true.1 c6.1 y (by simp)
    | cons z a ih =>
      simp only [List.cons_append,ckTail,Bool.and_eq_true] at c6
      exact ih (by simpa using c6.2)
end
end Go.Proofs.Orl

namespace Go.Proofs.Orl
open Go

def LIM:Nat:=1073741824

inductive OT (B:Nat) (old:Array Obj):Ty→Value→Prop
  | int (k:IntKind) (n:Int):OT B old (.int k) (.int k n)
  | bool (b:Bool):OT B old .bool (.bool b)
  | str (x:ByteArray):OT B old .str (.string x)
  | nil (o:Bool) (e:List Ty):OT B old (.sl o e) (.slice none 0 0)
  | sl (e:List Ty) (n k l c:Nat) (cs:Array Value) (t:TypeId) (fr:Nat × Nat):e ≠ []→n < B→l ≤ c→l ≤ LIM→old[n]? = some (.cells cs t fr)→(0 < l→k + l * e.length ≤ cs.size)→
      (∀ i,i < l * e.length→OT B old (e.getD (i % e.length) .any) (cs.getD (k + i) undef))→OT B old (.sl false e) (.slice (some ⟨n,k,none⟩) l c)
  | fn (a r:List Ty):OT B old (.fn a r) .nilFunc

theorem OT.oldV {B:Nat} {old:Array Obj} {t:Ty} {v:Value} (h:OT B old t v):OldV B v:=fun N φ => by
  cases h with
  | int k n => exact .int k n
  | bool b => exact .bool b
  | str x => exact .string x
  | nil o e => exact .nilSlice _ _
  | sl e n k l c cs t fr h0 h1 => exact .oldSlice _ _ _ h1
  | fn a r => exact .nilFunc

inductive VT (H:SH):Ty→Value→Prop
  | int (k:IntKind) (n:Int):VT H (.int k) (.int k n)
  | bool (b:Bool):VT H .bool (.bool b)
  | str (x:ByteArray):VT H .str (.string x)
  | nil (o:Bool) (e:List Ty):VT H (.sl o e) (.slice none 0 0)
  | old {e:List Ty} {v:Value} : OT H.B H.old (.sl false e) v→VT H (.sl false e) v
  | own (o:Bool) (e:List Ty) (n k l:Nat) (c:Array Value):e ≠ []→l ≤ LIM→H.B ≤ n→n < H.next→H.get n=some (.row c (.typed e))→k + l * e.length ≤ c.size→k % e.length=0→VT H (.sl o e) (.slice (some ⟨n,k,none⟩) l e.length)
  | ptr (e:List Ty) (n:Nat) (c:Array Value):e ≠ []→H.B ≤ n→n < H.next→H.get n=some (.row c (.typed e))→c.size=e.length→VT H (.ptr e) (.pointer (some ⟨n,0,none⟩))
  | any (v:Value):VT H .any v
  | nilFn (a r:List Ty):VT H (.fn a r) .nilFunc
  | rng (lo hi n:Int):lo ≤ n→n ≤ hi→VT H (.rng lo hi) (.int .i64 n)

def VTs (H:SH):List Ty→List Value→Prop
  | [],vs => vs=[]
  | t :: ts,vs => ∃ v l,vs=v :: l∧VT H t v∧VTs H ts l

structure WT (H:SH):Prop where
  base:H.B ≤ H.next
  ne : ∀ n c e,H.get n=some (.row c (.typed e))→e ≠ []
  cell : ∀ n c e,H.get n=some (.row c (.typed e))→∀ i,i < c.size→VT H (e.getD (i % e.length) .any) (c.getD i undef)

structure Le (H H' : SH):Prop where
  old:H'.old=H.old
  next:H.next ≤ H'.next
  row : ∀ n c e,n < H.next→H.get n=some (.row c (.typed e))→∃ c',H'.get n=some (.row c' (.typed e))∧c'.size=c.size

theorem Le.refl (H:SH):Le H H:=⟨rfl,Nat.le_refl _,fun n c e _ h => ⟨c,h,rfl⟩⟩
theorem Le.trans {H H' H'' : SH} (a:Le H H') (b:Le H' H''):Le H H'':=⟨b.old.trans a.old,Nat.le_trans a.next b.next,fun n c e hn h => by
  obtain ⟨c1,h1,h2⟩:=a.row n c e hn h
  obtain ⟨c2,h3,h4⟩:=b.row n c1 e (Nat.lt_of_lt_of_le hn a.next) h1
  exact ⟨c2,h3,h4.trans h2⟩⟩
theorem Keep.le {H H' : SH} (a:Keep H H'):Le H H':=⟨a.old,a.next,fun n c e hn h => ⟨c,(a.get n hn).trans h,rfl⟩⟩
theorem Le.B {H H' : SH} (a:Le H H'):H'.B=H.B:=Bof a.old

theorem VT.mono {H H' : SH} (a:Le H H') {t:Ty} {v:Value} (h:VT H t v):VT H' t v:=by
  cases h with
  | int k n => exact .int k n
  | bool b => exact .bool b
  | str x => exact .str x
  | nil o e => exact .nil o e
  | old h => exact .old (by rw [a.B,a.old]; exact h)
  | own o e n k l c h0 h1 h2 h3 h4 h5 h6 =>
    obtain ⟨c',g1,g2⟩:=a.row n c e h3 h4
    exact .own o e n k l c' h0 h1 (by rw [a.B]; exact h2) (Nat.lt_of_lt_of_le h3 a.next) g1 (by omega) h6
  | ptr e n c h0 h2 h3 h4 h5 =>
    obtain ⟨c',g1,g2⟩:=a.row n c e h3 h4
    exact .ptr e n c' h0 (by rw [a.B]; exact h2) (Nat.lt_of_lt_of_le h3 a.next) g1 (by omega)
  | any v => exact .any v
  | nilFn a r => exact .nilFn a r
  | rng lo hi n h1 h2 => exact .rng lo hi n h1 h2
theorem VTs.mono {H H' : SH} (a:Le H H') : ∀ {ts:List Ty} {vs:List Value},VTs H ts vs→VTs H' ts vs:=by
  intro ts
  induction ts with
  | nil => intro vs h; exact h
  | cons t ts ih => intro vs ⟨v,l,h1,h2,h3⟩; exact ⟨v,l,h1,h2.mono a,ih h3⟩

theorem OT.vt {H:SH} {t:Ty} {v:Value} (h:OT H.B H.old t v):VT H t v:=by
  cases h with
  | int k n => exact .int k n
  | bool b => exact .bool b
  | str x => exact .str x
  | nil o e => exact .nil o e
  | sl e n k l c cs t fr h0 h1 h2 h3 h4 h5 h6 => exact .old (.sl e n k l c cs t fr h0 h1 h2 h3 h4 h5 h6)
  | fn a r => exact .nilFn a r

theorem Le.new {H H1:SH} {x:SBlk} (f:NewF H x H1):Le H H1:=f.keep.le
theorem WT.raw {H H1:SH} {c:Array Value} (wt:WT H) (f:NewF H (.row c .raw) H1):WT H1:=by
  have hn : ∀ n c' e,H1.get n=some (.row c' (.typed e))→H.get n=some (.row c' (.typed e)):=fun n c' e h => by
    by_cases e1:n=H.next
    · subst e1; rw [f.blk] at h; cases h
    · rw [f.get n e1] at h; exact h
  exact ⟨by rw [Bof f.old]; have:=wt.base; have:=f.next; omega,fun n c' e h => wt.ne n c' e (hn n c' e h),fun n c' e h i hi => (wt.cell n c' e (hn n c' e h) i hi).mono (Le.new f)⟩
theorem WT.typed {H H1:SH} {c:Array Value} {e:List Ty} (wt:WT H) (f:NewF H (.row c (.typed e)) H1) (he:e ≠ []) (hc : ∀ i,i < c.size→VT H (e.getD (i % e.length) .any) (c.getD i undef)):WT H1:=by
  have hn : ∀ n c' e',H1.get n=some (.row c' (.typed e'))→(n=H.next∧c' = c∧e' = e)∨H.get n=some (.row c' (.typed e')):=fun n c' e' h => by
    by_cases e1:n=H.next
    · subst e1; rw [f.blk] at h; cases h; exact .inl ⟨rfl,rfl,rfl⟩
    · rw [f.get n e1] at h; exact .inr h
  refine ⟨by rw [Bof f.old]; have:=wt.base; have:=f.next; omega,fun n c' e' h => ?_,fun n c' e' h i hi => ?_⟩
  · rcases hn n c' e' h with ⟨_,rfl,rfl⟩ | h
    · exact he
    · exact wt.ne n c' e' h
  · rcases hn n c' e' h with ⟨_,rfl,rfl⟩ | h
    · exact (hc i hi).mono (Le.new f)
    · exact (wt.cell n c' e' h i hi).mono (Le.new f)
theorem Le.put {H H1:SH} {n:Nat} {c c' : Array Value} (f:PutF H n (some (.row c' .raw)) H1) (h:H.get n=some (.row c .raw)):Le H H1 :=
  ⟨f.old,by rw [f.next]; exact Nat.le_refl _,fun m d e hm hd => by
    by_cases e1:m=n
    · subst e1; rw [h] at hd; cases hd
    · exact ⟨d,(f.get m e1).trans hd,rfl⟩⟩
theorem WT.put {H H1:SH} {n:Nat} {c c' : Array Value} (wt:WT H) (f:PutF H n (some (.row c' .raw)) H1) (h:H.get n=some (.row c .raw)):WT H1:=by
  have hn : ∀ m c2 e,H1.get m=some (.row c2 (.typed e))→H.get m=some (.row c2 (.typed e)):=fun m c2 e h2 => by
    by_cases e1:m=n
    · subst e1; rw [f.blk] at h2; cases h2
    · rw [f.get m e1] at h2; exact h2
  exact ⟨by rw [Bof f.old]; have:=wt.base; have:=f.next; omega,fun m c2 e h2 => wt.ne m c2 e (hn m c2 e h2),fun m c2 e h2 i hi => (wt.cell m c2 e (hn m c2 e h2) i hi).mono (Le.put f h)⟩
theorem Le.app {H H1:SH} {n:Nat} {c c' : Array Value} (f:AppF H n (.row c' .raw) H1) (h:H.get n=some (.row c .raw)):Le H H1 :=
  ⟨f.old,by have:=f.next; omega,fun m d e hm hd => by
    by_cases e1:m=n
    · subst e1; rw [h] at hd; cases hd
    · exact ⟨d,(f.get m (by omega) e1).trans hd,rfl⟩⟩
theorem WT.app {H H1:SH} {n:Nat} {c c' : Array Value} (wt:WT H) (f:AppF H n (.row c' .raw) H1) (h:H.get n=some (.row c .raw)) (hlt:n < H.next):WT H1:=by
  have hn : ∀ m c2 e,H1.get m=some (.row c2 (.typed e))→H.get m=some (.row c2 (.typed e)):=fun m c2 e h2 => by
    by_cases e1:m=H.next
    · subst e1; rw [f.blk] at h2; cases h2
    · by_cases e2:m=n
      · subst e2; rw [f.gone hlt] at h2; cases h2
      · rw [f.get m e1 e2] at h2; exact h2
  exact ⟨by rw [Bof f.old]; have:=wt.base; have:=f.next; omega,fun m c2 e h2 => wt.ne m c2 e (hn m c2 e h2),fun m c2 e h2 i hi => (wt.cell m c2 e (hn m c2 e h2) i hi).mono (Le.app f h)⟩

def slen:Value→Nat
  | .slice _ l _ => l
  | _ => 0
def snm:Value→Nat
  | .slice (some a) _ _ => a.block
  | _ => 0
def sof:Value→Nat
  | .slice (some a) _ _ => a.off
  | _ => 0

theorem vt_lim {H:SH} {o:Bool} {e:List Ty} {v:Value} (h:VT H (.sl o e) v):slen v ≤ LIM:=by
  cases h with
  | nil => exact Nat.zero_le _
  | old h => cases h with
    | nil => exact Nat.zero_le _
    | sl e n k l c cs t fr h0 h1 h2 h3 => exact h3
  | own o e n k l c h0 h1 => exact h1

theorem vt_ro {H:SH} {o:Bool} {e:List Ty} {v:Value} (h:VT H (.sl o e) v):VT H (.sl false e) v:=by
  cases h with
  | nil => exact .nil _ _
  | old h => exact .old h
  | own o e n k l c h0 h1 h2 h3 h4 h5 h6 => exact .own _ e n k l c h0 h1 h2 h3 h4 h5 h6

section
variable {P:Program} {H:SH} {own:Bool} {e:List Ty} {v:Value}

theorem t_rd (wt:WT H) (hv:VT H (.sl own e) v) {i:Nat} (hi:i < slen v) : ∃ xs:Nat→Value,Rd H (snm v) (sof v + i * e.length) xs e.length∧∀ j,j < e.length→VT H (e.getD j .any) (xs j):=by
  have step : ∀ (l j:Nat),i < l→j < e.length→i * e.length + j < l * e.length:=fun l j h1 h2 => by
    have:=Nat.mul_le_mul_right e.length (show i + 1 ≤ l from h1)
    rw [Nat.add_mul] at this; omega
  have md : ∀ j,j < e.length→(i * e.length + j) % e.length=j:=fun j h2 => by
    rw [Nat.mul_comm,Nat.mul_add_mod,Nat.mod_eq_of_lt h2]
  cases hv with
  | nil => simp [slen] at hi
  | old h => cases h with
    | nil => simp [slen] at hi
    | sl e n k l c cs t fr h0 h1 h2 h3 h4 h5 h6 =>
      simp only [slen] at hi
      have hle : (i + 1) * e.length ≤ l * e.length:=Nat.mul_le_mul_right _ hi
      rw [Nat.add_mul] at hle
      refine ⟨fun j => cs.getD (k + i * e.length + j) undef,.inl ⟨h1,cs,t,fr,h4,by simp only [sof]; omega,fun j hj => ⟨rfl,?_⟩⟩,fun j hj => ?_⟩
      · have:=h6 (i * e.length + j) (step l j hi hj)
        rw [← Nat.add_assoc] at this
        exact this.oldV
      · have:=h6 (i * e.length + j) (step l j hi hj)
        rw [← Nat.add_assoc,md j hj] at this
        exact this.vt
  | own o e n k l c h0 h1 h2 h3 h4 h5 h6 =>
    simp only [slen] at hi
    have hle : (i + 1) * e.length ≤ l * e.length:=Nat.mul_le_mul_right _ hi
    rw [Nat.add_mul] at hle
    refine ⟨fun j => c.getD (k + i * e.length + j) undef,.inr ⟨h2,h3,c,_,h4,by simp only [sof]; omega,fun j hj => rfl⟩,fun j hj => ?_⟩
    have:=wt.cell n c e h4 (k + i * e.length + j) (by omega)
    have e1 : (k + i * e.length + j) % e.length=j:=by
      rw [Nat.add_assoc,Nat.add_mod,h6,md j hj,Nat.zero_add,Nat.mod_eq_of_lt hj]
    rwa [e1] at this

def ldL (b:Bool) (vs:List Value):Value:=if b then .agg vs.toArray else vs.getD 0 undef

theorem vts_of {ts:List Ty} {xs:Nat→Value} (h : ∀ j,j < ts.length→VT H (ts.getD j .any) (xs j)):VTs H ts ((List.range ts.length).map xs):=by
  induction ts generalizing xs with
  | nil => rfl
  | cons t ts ih =>
    refine ⟨xs 0,(List.range ts.length).map (fun j => xs (j + 1)),?_,by simpa using h 0 (by simp),ih fun j hj => by simpa using h (j + 1) (by simpa using hj)⟩
    rw [List.length_cons,List.range_succ_eq_map]
    simp [List.map_map,Function.comp_def]

theorem t_load (wt:WT H) (hv:VT H (.sl own e) v) {i off w:Nat} (hi:i < slen v) (hw:off + w ≤ e.length) : ∃ vs:List Value,VTs H ((e.drop off).take w) vs∧
    ∀ (o:Oper) (s:St) (t:TypeId) (x:Operand) (b:Bool),o.op=.load t x→okO x=true→s.ev x=.pointer (some ⟨snm v,sof v + i * e.length + off,none⟩)→s.H=H→aggT P t=some b→szT P t=some w→(b=true∨w=1)→OpV P o s (ldL b vs) s.H:=by
  obtain ⟨xs,hrd,hty⟩:=t_rd wt hv hi
  have hlen : ((e.drop off).take w).length=w:=by simp; omega
  refine ⟨(List.range w).map fun j => xs (off + j),?_,fun o s t x b ho hx hxv hH ha hs hb => ?_⟩
  · have:=vts_of (H:=H) (ts:=(e.drop off).take w) (xs:=fun j => xs (off + j)) fun j hj => by
      rw [hlen] at hj
      have:=hty (off + j) (by omega)
      have e2 : ((e.drop off).take w).getD j .any=e.getD (off + j) .any:=by
        simp [List.getD,List.getElem?_take,List.getElem?_drop,hj]
      rw [e2]; exact this
    rwa [hlen] at this
  · refine opv_loadR ho hx hxv ha hs (hH ▸ hrd.sub hw) hb ?_
    unfold ldL
    cases b with
    | true => rfl
    | false =>
      have:w=1:=by simpa using hb
      subst this
      rfl

theorem t_len {o:Oper} {s:St} {t te:TypeId} {x:Operand} (hv:VT H (.sl own e) v) (ho:o.op=.call { callee:=.builtin .len,args:=#[x],argTypes:=#[t] }) (hx:okO x=true) (hxv:s.ev x=v) (hu:P.underlying t=some (.slice te)) :
    OpV P o s (.int .i64 (slen v)) s.H:=by
  have : ∃ a l c,v=.slice a l c:=by
    cases hv with
    | nil => exact ⟨_,_,_,rfl⟩
    | old h => cases h <;> exact ⟨_,_,_,rfl⟩
    | own => exact ⟨_,_,_,rfl⟩
  obtain ⟨a,l,c,rfl⟩:=this
  exact opv_len_slice ho hx hxv hu

theorem t_index {o:Oper} {s:St} {t te:TypeId} {x i:Operand} {z:Nat} {kd:IntKind} {iv:Int} (hv:VT H (.sl own e) v) (ho:o.op=.indexAddr t x i) (hx:okO x=true) (hi:okO i=true) (hxv:s.ev x=v)
    (hiv:s.ev i=.int kd iv) (hu:P.underlying t=some (.slice te)) (hs:szT P te=some z) (h0:0 ≤ iv) (hlt:iv < slen v):OpV P o s (.pointer (some ⟨snm v,sof v + iv.toNat * z,none⟩)) s.H:=by
  cases hv with
  | nil => simp [slen] at hlt; omega
  | old h => cases h with
    | nil => simp [slen] at hlt; omega
    | sl => exact opv_indexAddr ho hx hi hxv hiv hu hs h0 hlt
  | own => exact opv_indexAddr ho hx hi hxv hiv hu hs h0 hlt
end

def CellsOK (H:SH) (e:List Ty):Nat→List Value→Prop
  | _,[] => True
  | i,v :: l => VT H (e.getD (i % e.length) .any) v∧CellsOK H e (i + 1) l
theorem cellsOK_get {H:SH} {e:List Ty} : ∀ (l:List Value) (k i:Nat),CellsOK H e k l→i < l.length→VT H (e.getD ((k + i) % e.length) .any) (l.getD i undef):=by
  intro l
  induction l with
  | nil => intro k i _ hi; simp at hi
  | cons v l ih =>
    intro k i h hi
    cases i with
    | zero => simpa using h.1
    | succ i =>
      have:=ih (k + 1) i h.2 (by simpa using hi)
      rw [show k + (i + 1) = k + 1 + i by omega]
      simpa using this
theorem cells_ok {H:SH} {e:List Ty} {l:List Value} (h:CellsOK H e 0 l) : ∀ i,i < l.toArray.size→VT H (e.getD (i % e.length) .any) (l.toArray.getD i undef):=fun i hi => by
  have:=cellsOK_get l 0 i h (by simpa using hi)
  simpa [List.getD,Array.getD_eq_getD_getElem?] using this
end Go.Proofs.Orl

namespace Go.Proofs.Orl
open Go

abbrev VTy:=Bool × List Ty
def VV (H:SH) (t:VTy) (v:Value):Prop:=∃ vs,VTs H t.2 vs∧v=ldL t.1 vs
def VVs (H:SH):List VTy→List Value→Prop
  | [],vs => vs=[]
  | t :: ts,vs => ∃ v l,vs=v :: l∧VV H t v∧VVs H ts l
theorem VV.mono {H H' : SH} (a:Le H H') {t:VTy} {v:Value} (h:VV H t v):VV H' t v:=let ⟨vs,h1,h2⟩:=h; ⟨vs,h1.mono a,h2⟩
theorem VVs.mono {H H' : SH} (a:Le H H') : ∀ {ts:List VTy} {vs:List Value},VVs H ts vs→VVs H' ts vs:=by
  intro ts
  induction ts with
  | nil => intro vs h; exact h
  | cons t ts ih => intro vs ⟨v,l,h1,h2,h3⟩; exact ⟨v,l,h1,h2.mono a,ih h3⟩
def VRes (H:SH) (r:List VTy) (v:Value):Prop:=∃ vs,VVs H r vs∧v=resOf vs

def FnOK (P:Program) (fv:Value) (a r:List VTy) (Pre:List Value→Prop) (H:SH):Prop :=
  (fv ≠ undef∧fv.cells=#[fv]∧fv.oneCell' = true)∧∀ H1,Keep H H1→WT H1→∀ args,VVs H1 a args→Pre args→WV P fv args H1 fun v H2 => Keep H1 H2∧WT H2∧VRes H2 r v

theorem FnOK.mono {P:Program} {fv:Value} {a r:List VTy} {Pre:List Value→Prop} {H H' : SH} (k:Keep H H') (h:FnOK P fv a r Pre H):FnOK P fv a r Pre H':=⟨h.1,fun H1 k1 => h.2 H1 (k.trans k1)⟩
theorem vt_ne {H:SH} {o:Bool} {e:List Ty} {v:Value} (h:VT H (.sl o e) v):v ≠ undef:=by
  cases h with
  | nil => simp [undef]
  | old h => cases h <;> simp [undef]
  | own => simp [undef]

def YieldOK (P:Program) (base:Nat) (X:Nat→Prop) (J D:SH→Prop) (y:Value) (e:List VTy) (Y:List Value→Prop):Prop :=
  ∀ H args,J H→WT H→base ≤ H.next→VVs H e args→Y args→WV P y args H fun v H' => ∃ b,v=.bool b∧WT H'∧Le H H'∧KeepX X H H'∧(b=true→J H')∧(b=false→D H')

def SeqOK (P:Program) (l:Value) (e:List VTy) (Y:List Value→Prop) (C M:Nat→Prop) (H:SH):Prop :=
  (∀ m,C m→m < H.next)∧(∀ m,M m→C m)∧∃ f first cap,l=.func (.func f) (List.toArray first) (List.toArray cap)∧(∀ args w,(callFunc f args).run P w=.ok (.enter f args) w)∧
    ∀ H1,KeepX (fun m => ¬ C m) H H1→Le H H1→WT H1→∀ (X:Nat→Prop) (J D:SH→Prop) (y:Value),(∀ m,X m→¬ C m∧m < H1.next)→
      (∀ A A',J A→H1.next ≤ A.next→KeepX (fun m => H1.next ≤ m∨M m) A A'→Le A A'→J A')→(∀ A A',D A→H1.next ≤ A.next→KeepX (fun m => H1.next ≤ m∨M m) A A'→Le A A'→D A')→
      J H1→YieldOK P H1.next X J D y e Y→
      WC P f (first++[y]++cap) H1 fun _ H2 => WT H2∧Le H1 H2∧KeepX (fun m => X m∨M m) H1 H2∧(J H2∨D H2)

theorem SeqOK.mono {P:Program} {l:Value} {e:List VTy} {Y:List Value→Prop} {C M C' : Nat→Prop} {H H' : SH} (k:KeepX (fun m => ¬ C m) H H') (hle:Le H H') (hC : ∀ m,C m→C' m) (hC' : ∀ m,C' m→m < H'.next) (h:SeqOK P l e Y C M H):SeqOK P l e Y C' M H':=by
  obtain ⟨a,b,f,first,cap,h1,h2,h3⟩:=h
  refine ⟨hC',fun m hm => hC m (b m hm),f,first,cap,h1,h2,fun H1 k1 le1 wt X J D y hX => h3 H1 (k.trans k1 fun m hm => ?_) (hle.trans le1) wt X J D y fun m hm => ⟨fun h => (hX m hm).1 (hC m h),(hX m hm).2⟩⟩
  exact .inl fun h => hm (hC m h)

theorem WT.other {H H1:SH} {x:SBlk} (wt:WT H) (f:NewF H x H1) (hx : ∀ c e,x ≠ .row c (.typed e)):WT H1:=by
  have hn : ∀ n c' e,H1.get n=some (.row c' (.typed e))→H.get n=some (.row c' (.typed e)):=fun n c' e h => by
    by_cases e1:n=H.next
    · subst e1; rw [f.blk] at h; cases h; exact absurd rfl (hx c' e)
    · rw [f.get n e1] at h; exact h
  exact ⟨by rw [Bof f.old]; have:=wt.base; have:=f.next; omega,fun n c' e h => wt.ne n c' e (hn n c' e h),fun n c' e h i hi => (wt.cell n c' e (hn n c' e h) i hi).mono (Le.new f)⟩
theorem Le.putO {H H1:SH} {n:Nat} {x:Option SBlk} {z:SBlk} (f:PutF H n x H1) (h:H.get n=some z) (hz : ∀ c e,z ≠ .row c (.typed e)):Le H H1 :=
  ⟨f.old,by rw [f.next]; exact Nat.le_refl _,fun m d e hm hd => by
    by_cases e1:m=n
    · subst e1; rw [h] at hd; cases hd; exact absurd rfl (hz d e)
    · exact ⟨d,(f.get m e1).trans hd,rfl⟩⟩
theorem WT.putO {H H1:SH} {n:Nat} {x:Option SBlk} {z:SBlk} (wt:WT H) (f:PutF H n x H1) (h:H.get n=some z) (hz : ∀ c e,z ≠ .row c (.typed e)) (hx : ∀ c e,x ≠ some (.row c (.typed e))):WT H1:=by
  have hn : ∀ m c2 e,H1.get m=some (.row c2 (.typed e))→H.get m=some (.row c2 (.typed e)):=fun m c2 e h2 => by
    by_cases e1:m=n
    · subst e1; rw [f.blk] at h2; exact absurd h2 (hx c2 e)
    · rw [f.get m e1] at h2; exact h2
  exact ⟨by rw [Bof f.old]; have:=wt.base; have:=f.next; omega,fun m c2 e h2 => wt.ne m c2 e (hn m c2 e h2),fun m c2 e h2 i hi => (wt.cell m c2 e (hn m c2 e h2) i hi).mono (Le.putO f h hz)⟩

section
variable {P:Program} {s:St}

end
end Go.Proofs.Orl
