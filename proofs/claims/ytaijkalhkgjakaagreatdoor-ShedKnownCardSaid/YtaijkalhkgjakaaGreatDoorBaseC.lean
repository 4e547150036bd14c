/- Our own logic over the model: abstract values, an abstract heap, and what a piece of code asks of them. Lean checks it. Conditions: none. -/
import Derived.Test.YtaijkalhkgjakaaGreatDoorBaseB
import Derived.Deep.MidRow
import Derived.DeepKeys
import Derived.ProofKit
import Derived.OpenShut
import Derived.ChangeOld
import Derived.Below
import Derived.ChangeArms
import Derived.DataReads
set_option linter.all false
set_option linter.unusedSimpArgs false
set_option linter.unusedVariables false
namespace Go.Av
def apick (c a b:AV):Option AV:=match c with
 | .bool t=>some (if t then a else b)
 | _=>none
def aslz (n:Nat) (lo hi:Option AV) (f:Nat→Nat→Option AV):Option AV:=match bnd 0 lo,bnd n hi with
 | some l,some h=>if 0≤l∧l≤h∧h≤n then f l.toNat h.toNat else none
 | _,_=>none
def aappz (z m:Nat) (h:AH) (id:Bid) (x y:AV):Option (AV × AH) :=
  if z=0 then none else match asrc h z y with
  | none=>none
  | some rows=>match x with
    | .nils=>if rows.length * m≤big∧rows.length≤big then
        (if rows.length=0 then some (.nils,h) else some (.slc id z 0 rows.length,h.put id (some ⟨z,rows⟩))) else none
    | .slc b e 0 n=>match h.at_ b with
      | some k=>if e=z then (if n≤k.es.length then (if (n+rows.length) * m≤big∧n+rows.length≤big then
          some (.slc id z 0 (n+rows.length),(h.put b none).put id (some ⟨z,k.es.take n ++ rows⟩)) else none) else none) else none
      | none=>none
    | .lstx e es => if e = z ∧ rows.length ≠ 0 then (if (es.length + rows.length) * m ≤ big ∧ es.length + rows.length ≤ big then
          some (.slc id z 0 (es.length+rows.length),h.put id (some ⟨z,es ++ rows⟩)) else none) else none
    | _=>none
def aputz (z:Nat) (s:AS) (p v:AV):Option AS :=
 if noL v=true∧v.cells.length=z∧v.cells.all AV.cell=true then
  match p with
  | .ptr b i j=>match s.h.at_ b with
   | some k=>if i < k.es.length then (if j+z≤(k.es.getD i []).length then
     some { s with h:=s.h.put b (some ⟨k.esz,k.es.set i ((k.es.getD i []).take j ++ v.cells ++ (k.es.getD i []).drop (j+z))⟩) } else none) else none
   | none=>none
  | .lptr t j=>match s.box t with
   | some r=>if j+z≤r.length then some { s with box:=upd s.box t (some (r.take j ++ v.cells ++ r.drop (j+z))) } else none
   | none=>none
  | .aptr b m j=>match s.h.at_ b with
   | some k=>if k.esz=1∧j=0∧z=m∧k.es.length=m then some { s with h:=s.h.put b (some ⟨1,v.cells.map fun x=>[x]⟩) } else none
   | none=>none
  | _=>none
 else none
def aext (x:AV) (i:Nat):Option AV:=match x with
 | .tup vs=>vs[i]?
 | _=>none
def afun (f:Fn) (x y:List AV):Option AV:=if x.all noL && y.all noL then some (.fn f x y) else none
def aeql (n:Nat) (f:Bool→Bool):Option (List (IntKind × Int))→Option (List (IntKind × Int))→Option AV
 | some p,some q=>if p.length=n∧p.map (·.1)=q.map (·.1) then some (.bool (f (decide (p=q)))) else none
 | _,_=>none
@[go_sem] theorem ev0 (T:Nat→AV) (B:Bid→Option (List AV)) (M:List Nat) (H:AH) (t:Nat):AS.ev (⟨T,B,M,H⟩:AS) (.tmp t)=T t:=rfl
@[go_sem] theorem ev1 (T:Nat→AV) (B:Bid→Option (List AV)) (M:List Nat) (H:AH) (v:Value):AS.ev (⟨T,B,M,H⟩:AS) (.const v)=ofVal v:=rfl
@[go_sem] theorem ev2 (T:Nat→AV) (B:Bid→Option (List AV)) (M:List Nat) (H:AH) (f:FuncId):AS.ev (⟨T,B,M,H⟩:AS) (.func f)=.fn (.func f) [] []:=rfl
@[go_sem] theorem ev3 (b:Bool):ofVal (.bool b)=.bool b:=rfl
@[go_sem] theorem ev4 (k:IntKind) (n:Int):ofVal (.int k n)=.int k n:=rfl
@[go_sem] theorem ev5 (x:ByteArray):ofVal (.string x)=.str x.data.toList:=rfl
@[go_sem] theorem ev6:ofVal (.pointer none)=.nilp:=rfl
@[go_sem] theorem ev7:ofVal (.slice none 0 0)=.nils:=rfl
@[go_sem] theorem ev8:ofVal .nilFunc=.nilfn:=rfl
@[go_sem] theorem ev9:ofVal .nilIface=.nilif:=rfl
@[go_sem] theorem ev10 (tt:Nat→TI) (fi:FI) (k0:Nat) (s:AS) (ty:TypeId) (p:String) (a:Array Edge) (g:Option (Nat × Bool)) (o:Option Tmp) (t:TypeId) (x:Operand):dres tt fi k0 ⟨o,.load t x,ty,p,a,g⟩ s=(aload (tt t) s (s.ev x)).map (·,.none):=rfl
@[go_sem] theorem ev11 (tt:Nat→TI) (fi:FI) (k0:Nat) (s:AS) (ty:TypeId) (p:String) (a:Array Edge) (g:Option (Nat × Bool)) (d:Tmp) (t:TypeId):dres tt fi k0 ⟨some d,.alloc t,ty,p,a,g⟩ s=(arows tt s.ev (.alloc t)).map (dnew fi (k0,d) d false):=rfl
@[go_sem] theorem ev12 (tt:Nat→TI) (fi:FI) (k0:Nat) (s:AS) (ty:TypeId) (p:String) (a:Array Edge) (g:Option (Nat × Bool)) (d:Tmp) (t:TypeId) (x:Operand):dres tt fi k0 ⟨some d,.box t x,ty,p,a,g⟩ s=(arows tt s.ev (.box t x)).map (dnew fi (k0,d) d true):=rfl
@[go_sem] theorem ev13 (tt:Nat→TI) (fi:FI) (k0:Nat) (s:AS) (ty:TypeId) (p:String) (a:Array Edge) (g:Option (Nat × Bool)) (d:Tmp) (t:TypeId) (n:Nat) (ps:Array (Nat × Operand)):dres tt fi k0 ⟨some d,.buildSlice t n ps,ty,p,a,g⟩ s=(absl tt s.ev t n ps.toList).map fun r=>if fi.imm.contains d then (if fi.loc.contains d then .lstx r.1 r.2 else .lst r.1 r.2,.none) else (.slc (k0,d) r.1 0 n,.heap (k0,d) r.1 r.2):=rfl
@[go_sem] theorem ev14 (tt:Nat→TI) (fi:FI) (k0:Nat) (s:AS) (ty:TypeId) (p:String) (a:Array Edge) (g:Option (Nat × Bool)) (d:Tmp) (t:TypeId) (l c:Operand):dres tt fi k0 ⟨some d,.makeSlice t l c,ty,p,a,g⟩ s=(amake tt t (s.ev l) (s.ev c)).map fun r=>(.slc (k0,d) r.1 0 r.2.2,.heap (k0,d) r.1 r.2.1):=rfl
@[go_sem] theorem ev15 (tt:Nat→TI) (fi:FI) (k0:Nat) (s:AS) (ty:TypeId) (p:String) (a:Array Edge) (g:Option (Nat × Bool)) (o:Option Tmp) (t:TypeId) (x:Operand) (lo hi:Option Operand):dres tt fi k0 ⟨o,.slice t x lo hi none,ty,p,a,g⟩ s=(asl (tt t) (elsize tt t) (lo.map s.ev) (hi.map s.ev) (s.ev x)).map (·,.none):=rfl
@[go_sem] theorem ev16 (tt:Nat→TI) (fi:FI) (k0:Nat) (s:AS) (ty:TypeId) (p:String) (a:Array Edge) (g:Option (Nat × Bool)) (o:Option Tmp) (x:Operand):dres tt fi k0 ⟨o,.nilCheck x,ty,p,a,g⟩ s=(nilv (s.ev x)).map (·,.none):=rfl
@[go_sem] theorem ev17 (tt:Nat→TI) (fi:FI) (k0:Nat) (s:AS) (ty:TypeId) (p:String) (a:Array Edge) (g:Option (Nat × Bool)) (o:Option Tmp) (x:Operand) (t:TypeId):dres tt fi k0 ⟨o,.call ⟨.builtin .len,#[x],#[t]⟩,ty,p,a,g⟩ s=(alen (tt t) (s.ev x)).map fun n=>(.int .i64 n,.none):=rfl
@[go_sem] theorem ev18 (tt:Nat→TI) (fi:FI) (k0:Nat) (s:AS) (ty:TypeId) (p:String) (a:Array Edge) (g:Option (Nat × Bool)) (o:Option Tmp) (xs:Array Operand) (ts:Array TypeId):dres tt fi k0 ⟨o,.call ⟨.builtin .max,xs,ts⟩,ty,p,a,g⟩ s=(amm true (xs.toList.map s.ev)).map (·,.none):=rfl
@[go_sem] theorem ev19 (tt:Nat→TI) (fi:FI) (k0:Nat) (s:AS) (ty:TypeId) (p:String) (a:Array Edge) (g:Option (Nat × Bool)) (o:Option Tmp) (xs:Array Operand) (ts:Array TypeId):dres tt fi k0 ⟨o,.call ⟨.builtin .min,xs,ts⟩,ty,p,a,g⟩ s=(amm false (xs.toList.map s.ev)).map (·,.none):=rfl
@[go_sem] theorem ev20 (tt:Nat→TI) (fi:FI) (k0:Nat) (s:AS) (ty:TypeId) (p:String) (a:Array Edge) (g:Option (Nat × Bool)) (o:Option Tmp) (x:Operand):dres tt fi k0 ⟨o,.move x,ty,p,a,g⟩ s=some (s.ev x,.none):=rfl
@[go_sem] theorem ev21 (tt:Nat→TI) (fi:FI) (k0:Nat) (s:AS) (ty:TypeId) (p:String) (a:Array Edge) (g:Option (Nat × Bool)) (o:Option Tmp) (x:Operand):dres tt fi k0 ⟨o,.assign x,ty,p,a,g⟩ s=some (s.ev x,.none):=rfl
@[go_sem] theorem ev22 (tt:Nat→TI) (fi:FI) (k0:Nat) (s:AS) (ty:TypeId) (p:String) (a:Array Edge) (g:Option (Nat × Bool)) (o:Option Tmp) (c x y:Operand):dres tt fi k0 ⟨o,.pick c x y,ty,p,a,g⟩ s=(apick (s.ev c) (s.ev x) (s.ev y)).map (·,.none):=rfl
@[go_sem] theorem ev23 (tt:Nat→TI) (fi:FI) (k0:Nat) (s:AS) (ty:TypeId) (p:String) (a:Array Edge) (g:Option (Nat × Bool)) (o:Option Tmp) (op:BinOp) (t:TypeId) (x y:Operand) (u:TypeId):dres tt fi k0 ⟨o,.binOp op t x y u,ty,p,a,g⟩ s=(abin (tt t) op (isC x || isC y) (s.ev x) (s.ev y)).map (·,.none):=rfl
@[go_sem] theorem ev24 (tt:Nat→TI) (fi:FI) (k0:Nat) (s:AS) (ty:TypeId) (p:String) (a:Array Edge) (g:Option (Nat × Bool)) (o:Option Tmp) (op:UnOp) (t:TypeId) (x:Operand):dres tt fi k0 ⟨o,.unOp op t x,ty,p,a,g⟩ s=(aun op (s.ev x)).map (·,.none):=rfl
@[go_sem] theorem ev25 (tt:Nat→TI) (fi:FI) (k0:Nat) (s:AS) (ty:TypeId) (p:String) (a:Array Edge) (g:Option (Nat × Bool)) (o:Option Tmp) (t u:TypeId) (x:Operand):dres tt fi k0 ⟨o,.convert t u x,ty,p,a,g⟩ s=(aconvB tt t u (s.ev x)).map (·,.none):=rfl
@[go_sem] theorem ev25i (tt:Nat→TI) (s d:Nat) (k:IntKind) (n:Int):aconvB tt s d (.int k n)=aconv (tt s) (tt d) (.int k n):=rfl
@[go_sem] theorem ev25s (tt:Nat→TI) (s d:Nat) (l:List UInt8):aconvB tt s d (.str l)=aconv (tt s) (tt d) (.str l):=rfl
@[go_sem] theorem ev26 (tt:Nat→TI) (fi:FI) (k0:Nat) (s:AS) (ty:TypeId) (p:String) (a:Array Edge) (g:Option (Nat × Bool)) (o:Option Tmp) (t:TypeId) (x:Operand) (f:Nat):dres tt fi k0 ⟨o,.fieldAddr t x f,ty,p,a,g⟩ s=(afieldAddr (tt t) f (s.ev x)).map (·,.none):=rfl
@[go_sem] theorem ev27 (tt:Nat→TI) (fi:FI) (k0:Nat) (s:AS) (ty:TypeId) (p:String) (a:Array Edge) (g:Option (Nat × Bool)) (o:Option Tmp) (t:TypeId) (x:Operand) (f:Nat):dres tt fi k0 ⟨o,.field t x f,ty,p,a,g⟩ s=(afield (tt t) f (s.ev x)).map (·,.none):=rfl
@[go_sem] theorem ev28 (tt:Nat→TI) (fi:FI) (k0:Nat) (s:AS) (ty:TypeId) (p:String) (a:Array Edge) (g:Option (Nat × Bool)) (o:Option Tmp) (t:TypeId) (x i:Operand):dres tt fi k0 ⟨o,.indexAddr t x i,ty,p,a,g⟩ s=(aidx tt t (s.ev x) (s.ev i)).map (·,.none):=rfl
@[go_sem] theorem ev29 (tt:Nat→TI) (fi:FI) (k0:Nat) (s:AS) (ty:TypeId) (p:String) (a:Array Edge) (g:Option (Nat × Bool)) (o:Option Tmp) (t:TypeId) (x i:Operand):dres tt fi k0 ⟨o,.index t x i,ty,p,a,g⟩ s=(aindex tt t (s.ev x) (s.ev i)).map (·,.none):=rfl
@[go_sem] theorem ev30 (tt:Nat→TI) (fi:FI) (k0:Nat) (s:AS) (ty:TypeId) (p:String) (a:Array Edge) (g:Option (Nat × Bool)) (o:Option Tmp) (x:Operand) (i:Nat):dres tt fi k0 ⟨o,.extract x i,ty,p,a,g⟩ s=(aext (s.ev x) i).map (·,.none):=rfl
@[go_sem] theorem ev31 (tt:Nat→TI) (fi:FI) (k0:Nat) (s:AS) (ty:TypeId) (p:String) (a:Array Edge) (g:Option (Nat × Bool)) (o:Option Tmp) (t:TypeId) (ps:Array (Nat × Operand)):dres tt fi k0 ⟨o,.build t ps,ty,p,a,g⟩ s=(abuild tt t (ps.toList.map fun q=>(q.1,s.ev q.2))).map (·,.none):=rfl
@[go_sem] theorem ev32 (tt:Nat→TI) (fi:FI) (k0:Nat) (s:AS) (ty:TypeId) (p:String) (a:Array Edge) (g:Option (Nat × Bool)) (o:Option Tmp) (f:Fn) (first cap:Array Operand):dres tt fi k0 ⟨o,.makeFunc f first cap,ty,p,a,g⟩ s=(afun f (first.toList.map s.ev) (cap.toList.map s.ev)).map (·,.none):=rfl
@[go_sem] theorem ev33 (x y:AV):apick (.bool true) x y=some x:=rfl
@[go_sem] theorem ev34 (x y:AV):apick (.bool false) x y=some y:=rfl
@[go_sem] theorem ev35 (vs:List AV) (i:Nat):aext (.tup vs) i=vs[i]?:=rfl
@[go_sem] theorem ev36 (f:Fn) (x y:List AV):afun f x y=if x.all noL && y.all noL then some (.fn f x y) else none:=rfl
@[go_sem] theorem ev37 (ti:TI) (c:Bool) (k:IntKind) (a b:Int):abin ti .add c (.int k a) (.int k b)=some (.int k (wr k (a+b))):=by simp [abin,ibin]
@[go_sem] theorem ev38 (ti:TI) (c:Bool) (k:IntKind) (a b:Int):abin ti .sub c (.int k a) (.int k b)=some (.int k (wr k (a - b))):=by simp [abin,ibin]
@[go_sem] theorem ev39 (ti:TI) (c:Bool) (k:IntKind) (a b:Int):abin ti .mul c (.int k a) (.int k b)=some (.int k (wr k (a * b))):=by simp [abin,ibin]
@[go_sem] theorem ev40 (ti:TI) (c:Bool) (k:IntKind) (a b:Int):abin ti .and c (.int k a) (.int k b)=some (.int k (bitop .and k a b)):=by simp [abin,ibin]
@[go_sem] theorem ev41 (ti:TI) (c:Bool) (k:IntKind) (a b:Int):abin ti .or c (.int k a) (.int k b)=some (.int k (bitop .or k a b)):=by simp [abin,ibin]
@[go_sem] theorem ev42 (ti:TI) (c:Bool) (k:IntKind) (a b:Int):abin ti .xor c (.int k a) (.int k b)=some (.int k (bitop .xor k a b)):=by simp [abin,ibin]
@[go_sem] theorem ev43 (ti:TI) (c:Bool) (k:IntKind) (a b:Int):abin ti .andNot c (.int k a) (.int k b)=some (.int k (bitop .andNot k a b)):=by simp [abin,ibin]
@[go_sem] theorem ev44 (ti:TI) (c:Bool) (k:IntKind) (a b:Int):abin ti .eql c (.int k a) (.int k b)=some (.bool (decide (a=b))):=by simp [abin,ibin]
@[go_sem] theorem ev45 (ti:TI) (c:Bool) (k:IntKind) (a b:Int):abin ti .neq c (.int k a) (.int k b)=some (.bool (decide (¬ a=b))):=by simp [abin,ibin]
@[go_sem] theorem ev46 (ti:TI) (c:Bool) (k:IntKind) (a b:Int):abin ti .lss c (.int k a) (.int k b)=some (.bool (decide (a < b))):=by simp [abin,ibin]
@[go_sem] theorem ev47 (ti:TI) (c:Bool) (k:IntKind) (a b:Int):abin ti .leq c (.int k a) (.int k b)=some (.bool (decide (a≤b))):=by simp [abin,ibin]
@[go_sem] theorem ev48 (ti:TI) (c:Bool) (k:IntKind) (a b:Int):abin ti .gtr c (.int k a) (.int k b)=some (.bool (decide (b < a))):=by simp [abin,ibin]
@[go_sem] theorem ev49 (ti:TI) (c:Bool) (k:IntKind) (a b:Int):abin ti .geq c (.int k a) (.int k b)=some (.bool (decide (b≤a))):=by simp [abin,ibin]
@[go_sem] theorem ev50 (ti:TI) (c:Bool) (k:IntKind) (a b:Int):abin ti .quo c (.int k a) (.int k b)=if b=0 then none else some (.int k (wr k (a.tdiv b))):=by simp [abin,ibin]
@[go_sem] theorem ev51 (ti:TI) (c:Bool) (k:IntKind) (a b:Int):abin ti .rem c (.int k a) (.int k b)=if b=0 then none else some (.int k (a.tmod b)):=by simp [abin,ibin]
@[go_sem] theorem ev52 (ti:TI) (c:Bool) (k k':IntKind) (a b:Int):abin ti .shl c (.int k a) (.int k' b)=if b < 0 then none else some (.int k (shl k a b)):=rfl
@[go_sem] theorem ev53 (ti:TI) (c:Bool) (k k':IntKind) (a b:Int):abin ti .shr c (.int k a) (.int k' b)=if b < 0 then none else some (.int k (shr k a b)):=rfl
@[go_sem] theorem ev54 (n m:Nat) (z:List AV) (q c a b:Bool):abin ⟨.bool,n,m,z,q,false⟩ .eql c (.bool a) (.bool b)=some (.bool (a == b)):=rfl
@[go_sem] theorem ev55 (n m:Nat) (z:List AV) (q c a b:Bool):abin ⟨.bool,n,m,z,q,false⟩ .neq c (.bool a) (.bool b)=some (.bool (!(a == b))):=rfl
@[go_sem] theorem ev56 (ti:TI) (c:Bool) (a b:List UInt8):abin ti .add c (.str a) (.str b)=if a.length+b.length≤4611686018427387904 then some (.str (a ++ b)) else none:=rfl
@[go_sem] theorem ev57 (ti:TI) (c:Bool) (a b:List UInt8):abin ti .eql c (.str a) (.str b)=some (.bool (decide (a=b))):=rfl
@[go_sem] theorem ev58 (ti:TI) (c:Bool) (a b:List UInt8):abin ti .neq c (.str a) (.str b)=some (.bool (decide (¬ a=b))):=rfl
@[go_sem] theorem ev59 (fs:List (Nat × Nat × Bool)) (n m:Nat) (z:List AV) (c:Bool) (x y:List AV):abin ⟨.struct fs,n,m,z,true,false⟩ .eql c (.agg x) (.agg y)=aeql n (fun b=>b) (ints x) (ints y):=by cases hx:ints x <;> cases hy:ints y <;> simp [abin,abinB,aeql,hx,hy]
@[go_sem] theorem ev60 (fs:List (Nat × Nat × Bool)) (n m:Nat) (z:List AV) (c:Bool) (x y:List AV):abin ⟨.struct fs,n,m,z,true,false⟩ .neq c (.agg x) (.agg y)=aeql n (fun b=>!b) (ints x) (ints y):=by cases hx:ints x <;> cases hy:ints y <;> simp [abin,abinB,aeql,hx,hy]
@[go_sem] theorem ev61 (n:Nat) (f:Bool→Bool) (p q:List (IntKind × Int)):aeql n f (some p) (some q)=if p.length=n∧p.map (·.1)=q.map (·.1) then some (.bool (f (decide (p=q)))) else none:=rfl
@[go_sem] theorem ev62:ints []=some []:=rfl
@[go_sem] theorem ev63 (k:IntKind) (n:Int) (vs:List AV):ints (.int k n :: vs)=(ints vs).map ((k,n) :: ·):=rfl
@[go_sem] theorem ev64 (k:IntKind) (n:Int):aun .neg (.int k n)=some (.int k (wr k (0 - n))):=rfl
@[go_sem] theorem ev65 (b:Bool):aun .not (.bool b)=some (.bool (!b)):=rfl
@[go_sem] theorem ev66 (k1 k2:IntKind) (n1 n2 m1 m2:Nat) (z1 z2:List AV) (q1 q2:Bool) (k:IntKind) (n:Int):aconv ⟨.int k1,n1,m1,z1,q1,false⟩ ⟨.int k2,n2,m2,z2,q2,false⟩ (.int k n)=some (.int k2 (wr k2 n)):=rfl
@[go_sem] theorem ev67 (n:Nat) (b:Bid) (i j:Nat):amove n (.ptr b i j)=some (.ptr b i (j+n)):=rfl
@[go_sem] theorem ev68 (b:Bid) (i j:Nat):nilv (.ptr b i j)=some (.ptr b i j):=rfl
@[go_sem] theorem ev69 (n:Nat) (b:Bid) (j:Nat):amove n (.lptr b j)=some (.lptr b (j+n)):=rfl
@[go_sem] theorem ev70 (b:Bid) (j:Nat):nilv (.lptr b j)=some (.lptr b j):=rfl
@[go_sem] theorem ev71 (n:Nat) (cs:List AV) (j:Nat):amove n (.iptr cs j)=some (.iptr cs (j+n)):=rfl
@[go_sem] theorem ev72 (cs:List AV) (j:Nat):nilv (.iptr cs j)=some (.iptr cs j):=rfl
@[go_sem] theorem ev73 (g:FuncId) (x y:List AV):nilv (.fn (.func g) x y)=some (.fn (.func g) x y):=rfl
@[go_sem] theorem ev74 (z o:Nat) (cs:List AV):apart false z o cs=cs[o]?:=rfl
@[go_sem] theorem ev75 (z o:Nat) (cs:List AV):apart true z o cs=if o+z≤cs.length then some (.agg ((cs.drop o).take z)) else none:=rfl
@[go_sem] theorem ev76 (T:Nat→AV) (B:Bid→Option (List AV)) (M:List Nat) (H:AH) (cs:List AV) (j:Nat):AS.row (⟨T,B,M,H⟩:AS) (.iptr cs j)=some (cs,j):=rfl
@[go_sem] theorem ev77 (T:Nat→AV) (B:Bid→Option (List AV)) (M:List Nat) (H:AH) (t:Bid) (j:Nat):AS.row (⟨T,B,M,H⟩:AS) (.lptr t j)=(B t).map (·,j):=by simp only[AS.row];cases B t <;> rfl
@[go_sem] theorem ev78 (T:Nat→AV) (B:Bid→Option (List AV)) (M:List Nat) (H:AH) (b:Bid) (i j:Nat):AS.row (⟨T,B,M,H⟩:AS) (.ptr b i j)=(H.at_ b).bind fun k=>if i < k.es.length then some (k.es.getD i [],j) else none:=by simp only[AS.row];cases H.at_ b <;> rfl
@[go_sem] theorem ev79 (k:IntKind) (n:Int):AV.cells (.int k n)=[.int k n]:=rfl
@[go_sem] theorem ev80 (k:IntKind) (n:Int):AV.cell (.int k n)=true:=rfl
@[go_sem] theorem ev81 (k:IntKind) (n:Int):noL (.int k n)=true:=rfl
@[go_sem] theorem ev82 (b:Bool):AV.cells (.bool b)=[.bool b]:=rfl
@[go_sem] theorem ev83 (b:Bool):AV.cell (.bool b)=true:=rfl
@[go_sem] theorem ev84 (b:Bool):noL (.bool b)=true:=rfl
@[go_sem] theorem ev85 (x:List UInt8):AV.cells (.str x)=[.str x]:=rfl
@[go_sem] theorem ev86 (x:List UInt8):AV.cell (.str x)=true:=rfl
@[go_sem] theorem ev87 (x:List UInt8):noL (.str x)=true:=rfl
@[go_sem] theorem ev88 (n:Nat) (es:List (List AV)):AV.cells (.lst n es)=[.lst n es]:=rfl
@[go_sem] theorem ev89 (n:Nat) (es:List (List AV)):AV.cell (.lst n es)=true:=rfl
@[go_sem] theorem ev90 (n:Nat) (es:List (List AV)):noL (.lst n es)=true:=rfl
@[go_sem] theorem ev91 (b:Bid) (x i n:Nat):AV.cells (.slc b x i n)=[.slc b x i n]:=rfl
@[go_sem] theorem ev92 (b:Bid) (x i n:Nat):AV.cell (.slc b x i n)=true:=rfl
@[go_sem] theorem ev93 (b:Bid) (x i n:Nat):noL (.slc b x i n)=true:=rfl
@[go_sem] theorem ev94:AV.cells (.nils)=[.nils]:=rfl
@[go_sem] theorem ev95:AV.cell (.nils)=true:=rfl
@[go_sem] theorem ev96:noL (.nils)=true:=rfl
@[go_sem] theorem ev97:AV.cells (.nilp)=[.nilp]:=rfl
@[go_sem] theorem ev98:AV.cell (.nilp)=true:=rfl
@[go_sem] theorem ev99:noL (.nilp)=true:=rfl
@[go_sem] theorem ev100 (b:Bid) (i j:Nat):AV.cells (.ptr b i j)=[.ptr b i j]:=rfl
@[go_sem] theorem ev101 (b:Bid) (i j:Nat):AV.cell (.ptr b i j)=true:=rfl
@[go_sem] theorem ev102 (b:Bid) (i j:Nat):noL (.ptr b i j)=true:=rfl
@[go_sem] theorem ev103 (cs:List AV) (j:Nat):AV.cells (.iptr cs j)=[.iptr cs j]:=rfl
@[go_sem] theorem ev104 (cs:List AV) (j:Nat):AV.cell (.iptr cs j)=true:=rfl
@[go_sem] theorem ev105 (cs:List AV) (j:Nat):noL (.iptr cs j)=true:=rfl
@[go_sem] theorem ev106 (f:Fn) (x y:List AV):AV.cells (.fn f x y)=[.fn f x y]:=rfl
@[go_sem] theorem ev107 (f:Fn) (x y:List AV):AV.cell (.fn f x y)=true:=rfl
@[go_sem] theorem ev108 (f:Fn) (x y:List AV):noL (.fn f x y)=true:=rfl
@[go_sem] theorem ev109:AV.cells (.nilfn)=[.nilfn]:=rfl
@[go_sem] theorem ev110:AV.cell (.nilfn)=true:=rfl
@[go_sem] theorem ev111:noL (.nilfn)=true:=rfl
@[go_sem] theorem ev112:AV.cells (.nilif)=[.nilif]:=rfl
@[go_sem] theorem ev113:AV.cell (.nilif)=true:=rfl
@[go_sem] theorem ev114:noL (.nilif)=true:=rfl
@[go_sem] theorem ev115:AV.cells (.ifc)=[.ifc]:=rfl
@[go_sem] theorem ev116:AV.cell (.ifc)=true:=rfl
@[go_sem] theorem ev117:noL (.ifc)=true:=rfl
@[go_sem] theorem ev118 (cs:List AV):AV.cells (.agg cs)=cs:=rfl
@[go_sem] theorem ev119 (cs:List AV):noL (.agg cs)=true:=rfl
@[go_sem] theorem ev120 (cs:List AV):noL (.tup cs)=true:=rfl
@[go_sem] theorem ev121 (t:Bid) (j:Nat):noL (.lptr t j)=false:=rfl
@[go_sem] theorem ev122 (fi:FI) (id:Bid) (d:Nat) (c:Bool) (r:Nat × List (List AV) × Nat):dnew fi id d c r=if fi.loc.contains d then (.lptr id 0,.loc id (r.2.1.getD 0 [])) else if c && fi.imm.contains d then (.iptr (r.2.1.getD 0 []) 0,.none) else (.ptr id 0 0,.heap id r.1 r.2.1):=rfl
@[go_sem] theorem ev123 (d:Int):bnd d none=some d:=rfl
@[go_sem] theorem ev124 (d:Int) (k:IntKind) (n:Int):bnd d (some (.int k n))=some n:=rfl
@[go_sem] theorem ev125 (x:Bool) (k:IntKind) (a:Int) (vs:List AV):amm x (.int k a :: vs)=aminmax x k a vs:=rfl
@[go_sem] theorem ev126 (x:Bool) (k:IntKind) (a:Int):aminmax x k a []=some (.int k a):=rfl
@[go_sem] theorem ev127 (k k':IntKind) (a b:Int) (vs:List AV):aminmax true k a (.int k' b :: vs)=aminmax true k (max a b) vs:=rfl
@[go_sem] theorem ev128 (k k':IntKind) (a b:Int) (vs:List AV):aminmax false k a (.int k' b :: vs)=aminmax false k (min a b) vs:=rfl
@[go_sem] theorem ev129:(true == true:Bool)=true:=rfl
@[go_sem] theorem ev130:(true == false:Bool)=false:=rfl
@[go_sem] theorem ev131:(false == true:Bool)=false:=rfl
@[go_sem] theorem ev132:(false == false:Bool)=true:=rfl
@[go_sem] theorem ev133 (w b:Bool):gval w (.bool b)=some (b == w):=rfl
@[go_sem] theorem ev134 (w:Bool):gval w (.tup [])=some false:=rfl
@[go_sem] theorem ev135 (H:AH) (b:Bid) (k:Option Blk):(H.put b k).at_=upd H.at_ b k:=rfl
@[go_sem] theorem ev136 (H:AH) (b:Bid) (k:Option Blk):(H.put b k).clk=H.clk:=rfl
@[go_sem] theorem ev137 (H:AH) (b:Bid) (k:Option Blk):(H.put b k).lp=H.lp:=rfl
@[go_sem] theorem ev138 (H:AH) (n:Nat):(H.tick n).at_=H.at_:=rfl
@[go_sem] theorem ev139 (H:AH) (n:Nat):(H.tick n).clk=n:=rfl
@[go_sem] theorem ev140 (H:AH) (n:Nat):(H.tick n).lp=H.lp:=rfl
@[go_sem] theorem ev141 (H:AH) (n m:Nat):(H.tick n).tick m=H.tick m:=rfl
@[go_sem] theorem ev142 (H:AH) (b:Bid) (k:Option Blk) (m:Nat):(H.put b k).tick m=(H.tick m).put b k:=rfl
@[go_sem] theorem ev143 (α:Type) (a:α) (l:List α):(a :: l).length=l.length+1:=rfl
@[go_sem] theorem ev144 (α:Type):([]:List α).length=0:=rfl
@[go_sem] theorem ev145 (α:Type) (f:α→Bool) (a:α) (l:List α):(a :: l).all f=(f a && l.all f):=rfl
@[go_sem] theorem ev146 (α:Type) (f:α→Bool):([]:List α).all f=true:=rfl
@[go_sem] theorem ev147 (α:Type) (a:α) (l:List α):(a :: l)[0]?=some a:=rfl
@[go_sem] theorem ev148 (α:Type) (a:α) (l:List α) (n:Nat):(a :: l)[n+1]?=l[n]?:=rfl
@[go_sem] theorem ev149 (α:Type) (a d:α) (l:List α):(a :: l).getD 0 d=a:=rfl
@[go_sem] theorem ev150 (α:Type) (a d:α) (l:List α) (n:Nat):(a :: l).getD (n+1) d=l.getD n d:=rfl
@[go_sem] theorem ev151 (α:Type) (a:α) (l:List α) (n:Nat):(a :: l).drop (n+1)=l.drop n:=rfl
@[go_sem] theorem ev152 (α:Type) (l:List α):l.drop 0=l:=rfl
@[go_sem] theorem ev153 (α:Type) (a:α) (l:List α) (n:Nat):(a :: l).take (n+1)=a :: l.take n:=rfl
@[go_sem] theorem ev154 (α:Type) (l:List α):l.take 0=[]:=by simp
@[go_sem] theorem ev155 (α:Type) (a:α) (l m:List α):(a :: l) ++ m=a :: (l ++ m):=rfl
@[go_sem] theorem ev156 (α:Type) (m:List α):[] ++ m=m:=rfl
@[go_sem] theorem ev157 (α β:Type) (f:α→β) (a:α) (l:List α):(a :: l).map f=f a :: l.map f:=rfl
@[go_sem] theorem ev158 (α β:Type) (f:α→β):([]:List α).map f=[]:=rfl
@[go_sem] theorem ev159 (α β:Type) (f:α→β) (x:α):(some x).map f=some (f x):=rfl
@[go_sem] theorem ev160 (α β:Type) (f:α→Option β) (x:α):(some x).bind f=f x:=rfl
@[go_sem] theorem ev161 (α β:Type) (f:α→β):(none:Option α).map f=none:=rfl
@[go_sem] theorem ev162 (α β:Type) (f:α→Option β):(none:Option α).bind f=none:=rfl
@[go_sem] theorem ev163 (α:Type):#[].toList=([]:List α):=rfl
@[go_sem] theorem ev164 (α:Type) (l:List α):l.toArray.toList=l:=rfl
@[go_sem] theorem ev165 (κ α:Type) [DecidableEq κ] (f:κ→α) (k:κ) (v:α):upd f k v k=v:=upd_same f k v
@[go_sem] theorem ev166 (κ α:Type) [DecidableEq κ] (f:κ→α) (k i:κ) (v:α):upd f k v i=if i=k then v else f i:=rfl
@[go_sem] theorem ev167 (α β:Type) (a c:α) (b d:β):((a,b)=(c,d))=(a=c∧b=d):=by simp
@[go_sem] theorem ev168 (x:Nat):([]:List Nat).contains x=false:=rfl
@[go_sem] theorem ev169 (a x:Nat) (l:List Nat):(a :: l:List Nat).contains x=(x == a || l.contains x):=List.contains_cons
@[go_sem] theorem ev170 (b:Bool):(b && true)=b:=Bool.and_true b
@[go_sem] theorem ev171 (b:Bool):(true && b)=b:=Bool.true_and b
@[go_sem] theorem ev172 (b:Bool):(b && false)=false:=Bool.and_false b
@[go_sem] theorem ev173 (b:Bool):(false && b)=false:=Bool.false_and b
@[go_sem] theorem ev174 (b:Bool):(b || true)=true:=Bool.or_true b
@[go_sem] theorem ev175 (b:Bool):(true || b)=true:=Bool.true_or b
@[go_sem] theorem ev176 (b:Bool):(b || false)=b:=Bool.or_false b
@[go_sem] theorem ev177 (b:Bool):(false || b)=b:=Bool.false_or b
@[go_sem] theorem ev178 (a:Prop):(a∧True)=a:=and_true a
@[go_sem] theorem ev179 (a:Prop):(True∧a)=a:=true_and a
@[go_sem] theorem ev180 (a:Prop):(a∧False)=False:=and_false a
@[go_sem] theorem ev181 (a:Prop):(False∧a)=False:=false_and a
@[go_sem] theorem ev182 (α:Type) (a b:α):(if True then a else b)=a:=if_pos trivial
@[go_sem] theorem ev183 (α:Type) (a b:α):(if False then a else b)=b:=if_neg id
@[go_sem] theorem ev184:(true=true)=True:=by simp
@[go_sem] theorem ev185:(false=true)=False:=by simp
@[go_sem] theorem ev186:(!true)=false:=rfl
@[go_sem] theorem ev187:(!false)=true:=rfl
@[go_sem] theorem ev188 (b:Bool):(!(!b))=b:=Bool.not_not b
@[go_sem] theorem ev189 (α:Type) (x:α):(x=x)=True:=eq_self x
@[go_sem] theorem ev190:decide True=true:=rfl
@[go_sem] theorem ev191:decide False=false:=rfl
@[go_sem] theorem ev192 (fi:FI) (o:Oper) (s:AS):flagOk fi false o s=true:=rfl
@[go_sem] theorem ev193 (n:Nat) (lo hi:Option AV) (f:Nat→Nat→Option AV):aslz n lo hi f=(bnd 0 lo).bind fun l=>(bnd n hi).bind fun h=>if 0≤l∧l≤h∧h≤n then f l.toNat h.toNat else none:=by unfold aslz;cases bnd 0 lo <;> cases bnd n hi <;> rfl
@[go_sem] theorem ev194 (H:AH) (z x:Nat) (es:List (List AV)):asrc H z (.lst x es)=if x=z then some es else none:=rfl
@[go_sem] theorem ev195 (H:AH) (z:Nat):asrc H z .nils=some []:=rfl
@[go_sem] theorem ev196 (H:AH) (b:Bid) (z x o m:Nat):asrc H z (.slc b x o m)=(H.at_ b).bind fun k=>if x=z then (if o+m≤k.es.length then some ((k.es.drop o).take m) else none) else none:=by simp only[asrc];cases H.at_ b <;> rfl
@[go_sem] theorem ev197 (z m:Nat) (h:AH) (id:Bid) (y:AV):aappz z m h id .nils y=if z=0 then none else (asrc h z y).bind fun rows=>if rows.length * m≤big∧rows.length≤big then (if rows.length=0 then some (.nils,h) else some (.slc id z 0 rows.length,h.put id (some ⟨z,rows⟩))) else none:=by unfold aappz;split <;> (try rfl);cases asrc h z y <;> rfl
@[go_sem] theorem ev198 (z m:Nat) (h:AH) (id b:Bid) (x n:Nat) (y:AV):aappz z m h id (.slc b x 0 n) y=if z=0 then none else (asrc h z y).bind fun rows=>(h.at_ b).bind fun k=>if x=z then (if n≤k.es.length then (if (n+rows.length) * m≤big∧n+rows.length≤big then some (.slc id z 0 (n+rows.length),(h.put b none).put id (some ⟨z,k.es.take n ++ rows⟩)) else none) else none) else none:=by unfold aappz;split <;> (try rfl);cases asrc h z y <;> (try rfl);simp only[Option.bind_some];cases h.at_ b <;> rfl
@[go_sem] theorem ev199 (T:Nat→AV) (B:Bid→Option (List AV)) (M:List Nat) (H:AH) (z:Nat) (t:Bid) (j:Nat) (v:AV):aputz z (⟨T,B,M,H⟩:AS) (.lptr t j) v=if noL v=true∧v.cells.length=z∧v.cells.all AV.cell=true then (B t).bind fun r=>if j+z≤r.length then some ⟨T,upd B t (some (r.take j ++ v.cells ++ r.drop (j+z))),M,H⟩ else none else none:=by unfold aputz;split <;> (try rfl);dsimp only;cases B t <;> rfl
@[go_sem] theorem ev200 (T:Nat→AV) (B:Bid→Option (List AV)) (M:List Nat) (H:AH) (z:Nat) (b:Bid) (i j:Nat) (v:AV):aputz z (⟨T,B,M,H⟩:AS) (.ptr b i j) v=if noL v=true∧v.cells.length=z∧v.cells.all AV.cell=true then (H.at_ b).bind fun k=>if i < k.es.length then (if j+z≤(k.es.getD i []).length then some ⟨T,B,M,H.put b (some ⟨k.esz,k.es.set i ((k.es.getD i []).take j ++ v.cells ++ (k.es.getD i []).drop (j+z))⟩)⟩ else none) else none else none:=by unfold aputz;split <;> (try rfl);dsimp only;cases H.at_ b <;> rfl
theorem asl_slc {ti:TI} {el:Nat} (hk:ti.k=.slice el) (ez:Nat) (lo hi:Option AV) (b:Bid) (x o k:Nat):asl ti ez lo hi (.slc b x o k)=aslz k lo hi fun l h=>if x=ez then some (.slc b x (o+l) (h - l)) else none:=by
 unfold aslz;simp only[asl,hk];cases bnd 0 lo <;> cases bnd k hi <;> (try rfl)
 dsimp only;split <;> split <;> simp_all
theorem asl_lst {ti:TI} {el:Nat} (hk:ti.k=.slice el) (ez:Nat) (lo hi:Option AV) (x:Nat) (es:List (List AV)):asl ti ez lo hi (.lst x es)=aslz es.length lo hi fun l h=>if x=ez then some (.lst x ((es.drop l).take (h - l))) else none:=by
 unfold aslz;simp only[asl,hk];cases bnd 0 lo <;> cases bnd es.length hi <;> (try rfl)
 dsimp only;split <;> split <;> simp_all
theorem asl_str {ti:TI} (hk:ti.k=.str) (ez:Nat) (lo hi:Option AV) (s:List UInt8):asl ti ez lo hi (.str s)=aslz s.length lo hi fun l h=>some (.str ((s.drop l).take (h - l))):=by
 unfold aslz;simp only[asl,hk];cases bnd 0 lo <;> cases bnd s.length hi <;> rfl
theorem aput_z {ti:TI} {z:Nat} (hk:ti.knows=true) (hs:ti.size=z) (s:AS) (p v:AV):aput ti s p v=aputz z s p v:=by
 subst hs;unfold aput aputz;simp only[hk,true_and];rfl
theorem if_yes {α:Type} {c:Prop} [Decidable c] {a b:α} (h:c):(if c then a else b)=a:=if_pos h
theorem if_no {α:Type} {c:Prop} [Decidable c] {a b:α} (h:¬ c):(if c then a else b)=b:=if_neg h
end Go.Av
namespace Go.Av
variable {P:Program} {tt:Nat→TI} {fi:FI}
structure Sub (s s':AS):Prop where
 tmp:∀ t,s.tmp t=.undef ∨ s.tmp t=s'.tmp t
 box:∀ b,s.box b=none ∨ s.box b=s'.box b
 mks:s.mks=s'.mks
 at_:∀ b k,s.h.at_ b=some k→b.1 < s'.h.clk→s'.h.at_ b=some k
 new:∀ b k,s.h.at_ b=some k→¬ b.1 < s'.h.clk→s'.h.at_ b=some k
 lp:∀ l r,s.h.lp l=some r→s'.h.lp l=some r
 clk:s'.h.clk≤s.h.clk
 gl:s.h.gl=s'.h.gl
theorem ASem.sub {r:Option Nat} {n:Nat} {code:Code} {Q:Exit→AS→Prop} {s s':AS} (hs:Sub s s') (h:ASem P r n code Q s):ASem P r n code Q s':=by
 intro c0 h0 c lb a S
 have hat:∀ b k,s.h.at_ b=some k→s'.h.at_ b=some k:=fun b k hb=>by
  by_cases hlt:b.1 < s'.h.clk
  ·exact hs.at_ b k hb hlt
  ·exact hs.new b k hb hlt
 obtain ⟨H2,E2⟩:=S.hr.sub hat hs.lp hs.clk hs.gl
 refine h c0 h0 c lb a ⟨H2,⟨S.fr.size,fun t=>?_,by rw [hs.mks];exact S.fr.defers,by rw [hs.mks];exact S.fr.marks,fun id cs hb=>?_,fun id b hb=>Nat.lt_of_lt_of_le (S.fr.lbclk id b hb) hs.clk,S.fr.lbinj,S.fr.lbsize⟩,S.evo.trans E2,S.new,S.dn,by rw [hs.mks];exact S.mnew⟩
 ·rcases hs.tmp t with e|e
  ·rw [e];simp only[VL,VR]
  ·rw [e];exact S.fr.tmps t
 ·rcases hs.box id with e|e
  ·rw [e] at hb;cases hb
  ·rw [e] at hb
   obtain ⟨b,xs,ty,g1,g2,g3,g4,g5,g6⟩:=S.fr.box id cs hb
   refine ⟨b,xs,ty,g1,g2,fun hr=>g3 ?_,g4,g5,g6⟩
   rcases hr with ⟨a,k,h1,h2⟩|⟨r,hr⟩
   ·exact .inl ⟨a,k,hat a k h1,h2⟩
   ·exact .inr ⟨r,hs.lp _ r hr⟩
def keep (L:List (Nat × AV)):Nat→AV:=L.foldr (fun p f=>upd f p.1 p.2) (fun _=>.undef)
def keepOk (T:Nat→AV):List (Nat × AV)→Prop
 | []=>True
 | p :: L=>T p.1=p.2∧keepOk T L
def keepB (L:List (Bid × List AV)):Bid→Option (List AV):=L.foldr (fun p f=>upd f p.1 (some p.2)) (fun _=>none)
def keepBOk (B:Bid→Option (List AV)):List (Bid × List AV)→Prop
 | []=>True
 | p :: L=>B p.1=some p.2∧keepBOk B L
@[go_sem] theorem keep_nil:keep []=fun _=>.undef:=rfl
@[go_sem] theorem keep_cons (p:Nat × AV) (L:List (Nat × AV)):keep (p :: L)=upd (keep L) p.1 p.2:=rfl
@[go_sem] theorem keepB_nil:keepB []=fun _=>none:=rfl
@[go_sem] theorem keepB_cons (p:Bid × List AV) (L:List (Bid × List AV)):keepB (p :: L)=upd (keepB L) p.1 (some p.2):=rfl
theorem keep_sub {T:Nat→AV}:∀ {L:List (Nat × AV)},keepOk T L→∀ t,keep L t=.undef ∨ keep L t=T t
 | [],_,t=>.inl rfl
 | p :: L,h,t=>by
  rw [keep_cons,upd_apply]
  split
  ·rename_i e;rw [e];exact .inr h.1.symm
  ·exact keep_sub h.2 t
theorem keepB_sub {B:Bid→Option (List AV)}:∀ {L:List (Bid × List AV)},keepBOk B L→∀ t,keepB L t=none ∨ keepB L t=B t
 | [],_,t=>.inl rfl
 | p :: L,h,t=>by
  rw [keepB_cons,upd_apply]
  split
  ·rename_i e;rw [e];exact .inr h.1.symm
  ·exact keepB_sub h.2 t
structure HSub (h h':AH):Prop where
 at_:∀ b k,h.at_ b=some k→h'.at_ b=some k
 lp:∀ l r,h.lp l=some r→h'.lp l=some r
 clk:h'.clk≤h.clk
 gl:h.gl=h'.gl
theorem HSub.refl (h:AH):HSub h h:=⟨fun _ _ h=>h,fun _ _ h=>h,Nat.le_refl _,rfl⟩
theorem HSub.trans {a b c:AH} (h:HSub a b) (k:HSub b c):HSub a c:=⟨fun x y e=>k.at_ x y (h.at_ x y e),fun x y e=>k.lp x y (h.lp x y e),Nat.le_trans k.clk h.clk,h.gl.trans k.gl⟩
theorem Sub.of {L:List (Nat × AV)} {LB:List (Bid × List AV)} {M:List Nat} {h h':AH} {T:Nat→AV} {B:Bid→Option (List AV)} (h1:keepOk T L) (h2:keepBOk B LB) (h3:HSub h h'):Sub ⟨keep L,keepB LB,M,h⟩ ⟨T,B,M,h'⟩ :=
 ⟨keep_sub h1,keepB_sub h2,rfl,fun b k e _=>h3.at_ b k e,fun b k e _=>h3.at_ b k e,h3.lp,h3.clk,h3.gl⟩
structure HOld (h h':AH):Prop where
 at_:∀ b k,h.at_ b=some k→h'.at_ b=some k
 lp:∀ l r,h.lp l=some r→h'.lp l=some r
 clk:h.clk≤h'.clk
 gl:h.gl=h'.gl
theorem HOld.refl (h:AH):HOld h h:=⟨fun _ _ h=>h,fun _ _ h=>h,Nat.le_refl _,rfl⟩
theorem HOld.tick {h:AH} {n:Nat} (hn:h.clk≤n):HOld h (h.tick n):=⟨fun _ _ h=>h,fun _ _ h=>h,hn,rfl⟩
theorem HOld.sub {h h':AH} (k:HOld h h'):HSub (h.tick h'.clk) h':=⟨k.at_,k.lp,Nat.le_refl _,k.gl⟩
theorem st_loop {α:Type} (T0:Tab P tt) (hm:P.follows .mixedOrders=true) {c:Code} {Q:Exit→AS→Prop} {T:Nat→AV} {B:Bid→Option (List AV)} {M:List Nat} {h:AH}
  (L:α→List (Nat × AV)) (LB:α→List (Bid × List AV)) (H:α→AH) (inv:α→Prop) (μ:α→Nat) (hk:codeOk fi c=true)
  (a0:α) (i0:inv a0) (h1:keepOk T (L a0)) (h2:keepBOk B (LB a0)) (h3:HOld (H a0) h)
  (round:∀ a n,inv a→(H a).clk≤n→awp P tt fi c (thenA (fun s=>∃ a',inv a'∧μ a' < μ a∧keepOk s.tmp (L a')∧keepBOk s.box (LB a')∧s.mks=M∧HOld (H a') s.h) Q) ⟨keep (L a),keepB (LB a),M,(H a).tick n⟩) :
  awp P tt fi (.loop c) Q ⟨T,B,M,h⟩:=by
 show ASem P fi.rnd fi.n (.loop c) Q ⟨T,B,M,h⟩
 classical
 let G:AS→α→Prop:=fun s a=>inv a∧∃ n,(H a).clk≤n∧Sub ⟨keep (L a),keepB (LB a),M,(H a).tick n⟩ s
 let ν:AS→Nat:=fun s=>if hx:∃ m,∃ a,G s a∧μ a=m then (exists_min _ hx).choose else 0
 have hν:∀ s a,G s a→ν s≤μ a:=by
  intro s a ha
  have hex:∃ m,∃ a,G s a∧μ a=m:=⟨μ a,a,ha,rfl⟩
  simp only[ν,dif_pos hex]
  exact (exists_min _ hex).choose_spec.2 _ ⟨a,ha,rfl⟩
 have hat:∀ s,(∃ a,G s a)→∃ a,G s a∧μ a=ν s:=by
  rintro s ⟨a,ha⟩
  have hex:∃ m,∃ a,G s a∧μ a=m:=⟨μ a,a,ha,rfl⟩
  simp only[ν,dif_pos hex]
  exact (exists_min _ hex).choose_spec.1
 refine ASem.loop (fun s=>∃ a,G s a) ν ⟨a0,i0,h.clk,h3.clk,Sub.of h1 h2 h3.sub⟩ ?_
 intro s hs
 obtain ⟨a,⟨ha,n,hn,hsub⟩,hm'⟩:=hat s hs
 refine ASem.sub hsub ((awp_sound T0 hm c _ _ hk (round a n ha hn)).mono ?_)
 intro e s' q
 cases e with
 | normal =>
  obtain ⟨a',g1,g2,g3,g4,g5,g6⟩:=q
  have hG:G s' a':=by
   refine ⟨g1,s'.h.clk,g6.clk,?_⟩
   obtain ⟨T',B',M',h'⟩:=s'
   dsimp only at g3 g4 g5 g6
   subst g5
   exact Sub.of g3 g4 g6.sub
  exact ⟨⟨a',hG⟩,Nat.lt_of_le_of_lt (hν _ _ hG) (hm' ▸ g2)⟩
 | _=>exact q
theorem st_tN {K:AS→Prop} {Q:Exit→AS→Prop} {s:AS} (h:K s):thenA K Q .normal s:=h
theorem st_tE {K:AS→Prop} {Q:Exit→AS→Prop} {s:AS} {id:Nat} (h:Q (.exit id) s):thenA K Q (.exit id) s:=h
theorem st_tR {K:AS→Prop} {Q:Exit→AS→Prop} {s:AS} (h:Q .ret s):thenA K Q .ret s:=h
theorem st_bN {Q:Exit→AS→Prop} {s:AS} {id:Nat} (h:Q .normal s):blockA id Q .normal s:=h
theorem st_bR {Q:Exit→AS→Prop} {s:AS} {id:Nat} (h:Q .ret s):blockA id Q .ret s:=h
theorem st_bH {Q:Exit→AS→Prop} {s:AS} {id:Nat} (h:Q .normal s):blockA id Q (.exit id) s:=by simp only[blockA,if_true];exact h
theorem st_bM {Q:Exit→AS→Prop} {s:AS} {id id':Nat} (hn:Nat.beq id' id=false) (h:Q (.exit id') s):blockA id Q (.exit id') s:=by
 simp only[blockA];rw [if_neg (Nat.ne_of_beq_eq_false hn)];exact h
end Go.Av
namespace Go.Av
variable {P:Program} {tt:Nat→TI} {fi:FI} {k0:Nat} {ops:Array Oper} {K:AS→Prop} {T:Nat→AV} {B:Bid→Option (List AV)} {M:List Nat} {H:AH}
@[go_sem] theorem put_lp (h:AH) (b:Bid) (k:Option Blk):(h.put b k).lp=h.lp:=rfl
@[go_sem] theorem put_clk (h:AH) (b:Bid) (k:Option Blk):(h.put b k).clk=h.clk:=rfl
@[go_sem] theorem put_put (h:AH) (b:Bid) (k k':Option Blk):(h.put b k).put b k'=h.put b k':=by
 simp only[AH.put,upd_upd]
@[go_sem] theorem put_same (h:AH) (b:Bid) (k:Option Blk):(h.put b k).at_ b=k:=by simp [AH.put,upd]
theorem put_ne (h:AH) {b i:Bid} (k:Option Blk) (hn:i ≠ b):(h.put b k).at_ i=h.at_ i:=by simp [AH.put,upd,hn]
@[go_sem] theorem put_ne1 (h:AH) {a c t u:Nat} (k:Option Blk) (hn:a ≠ c):(h.put (c,u) k).at_ (a,t)=h.at_ (a,t):=put_ne h k (fun e=>hn (congrArg Prod.fst e))
@[go_sem] theorem put_ne2 (h:AH) {a c t u:Nat} (k:Option Blk) (hn:t ≠ u):(h.put (c,u) k).at_ (a,t)=h.at_ (a,t):=put_ne h k (fun e=>hn (congrArg Prod.snd e))
@[go_sem] theorem put_ne3 (h:AH) {b:Bid} {c u:Nat} (k:Option Blk) (hn:b.1 < c):(h.put (c,u) k).at_ b=h.at_ b:=put_ne h k (fun e=>by rw [e] at hn;exact Nat.lt_irrefl _ hn)
@[go_sem] theorem put_ne4 (h:AH) {b:Bid} {c u:Nat} (k:Option Blk) (hn:b.1 < c):(h.put b k).at_ (c,u)=h.at_ (c,u):=put_ne h k (fun e=>by rw [← e] at hn;exact Nat.lt_irrefl _ hn)
def Pure (P:Program) (f:FuncId) (args:List AV) (R:AV→Prop):Prop:=∀ h,ACalls P f args h (fun v h'=>Later h h'∧R v)
theorem st_pure {d:Tmp} {fid:FuncId} {xs:Array Operand} {ts:Array TypeId} {t:TypeId} {p:String} {a:Array Edge} {g:Option (Nat × Bool)} {args:List AV} {R:AV→Prop} {k:Nat} {H':Nat→AH}
  (ha:xs.toList.map (AS.ev ⟨T,B,M,H⟩)=args) (hn:args.all noL=true) (hc:Pure P fid args R) (hcl:H.clk=k) (hH:∀ n,H.tick n=H' n) (hk:∀ v n,R v→k≤n→K ⟨upd T d v,B,M,H' n⟩) :
  awp1 P tt fi k0 ⟨some d,.call ⟨.value (.func fid),xs,ts⟩,t,p,a,g⟩ ⟨T,B,M,H⟩ K:=by
 refine st_callf ha hn (hc H) ?_
 rintro v h' ⟨⟨n,hn,rfl⟩,hr⟩
 rw [hH]
 exact hk v n hr (hcl ▸ hn)
theorem st_pureE {d:Tmp} {fid:FuncId} {xs:Array Operand} {ts:Array TypeId} {t:TypeId} {p:String} {a:Array Edge} {g:Option (Nat × Bool)} {args:List AV} {v:AV} {k:Nat} {H':Nat→AH}
  (ha:xs.toList.map (AS.ev ⟨T,B,M,H⟩)=args) (hn:args.all noL=true) (hc:Pure P fid args (fun x=>x=v)) (hcl:H.clk=k) (hH:∀ n,H.tick n=H' n) (hk:∀ n,k≤n→K ⟨upd T d v,B,M,H' n⟩) :
  awp1 P tt fi k0 ⟨some d,.call ⟨.value (.func fid),xs,ts⟩,t,p,a,g⟩ ⟨T,B,M,H⟩ K:=by
 refine st_pure ha hn hc hcl hH ?_
 rintro _ n rfl hn
 exact hk n hn
theorem st_pureV {d:Tmp} {f:Operand} {xs:Array Operand} {ts:Array TypeId} {t:TypeId} {p:String} {a:Array Edge} {g:Option (Nat × Bool)} {fid:FuncId} {first cap args:List AV} {R:AV→Prop} {k:Nat} {H':Nat→AH}
  (hf:AS.ev ⟨T,B,M,H⟩ f=.fn (.func fid) first cap) (ha:xs.toList.map (AS.ev ⟨T,B,M,H⟩)=args) (hn:args.all noL=true) (hc:Pure P fid (first ++ args ++ cap) R) (hcl:H.clk=k) (hH:∀ n,H.tick n=H' n) (hk:∀ v n,R v→k≤n→K ⟨upd T d v,B,M,H' n⟩) :
  awp1 P tt fi k0 ⟨some d,.call ⟨.value f,xs,ts⟩,t,p,a,g⟩ ⟨T,B,M,H⟩ K:=by
 refine st_call hf ha hn (hc H) ?_
 rintro v h' ⟨⟨n,hn,rfl⟩,hr⟩
 rw [hH]
 exact hk v n hr (hcl ▸ hn)
def dr (x:Int):Option Blk:=some ⟨1,[[.int .u64 x]]⟩
def isU64 (x:Int):Prop:=0≤x∧x < 18446744073709551616
def Drum (P:Program) (f:FuncId) (args:List AV) (b:Bid) (R:AV→Prop):Prop :=
 ∀ h x,h.at_ b=dr x→isU64 x→ACalls P f args h (fun v h'=>∃ x' n,isU64 x'∧h.clk≤n∧h'=(h.put b (dr x')).tick n∧R v)
theorem ACalls.old {f:FuncId} {args:List AV} {h:AH} {Q:AV→AH→Prop} (he:Enters P f) (H:(∀ b k,h.at_ b=some k→b.1 < h.clk)→ACalls P f args h Q):ACalls P f args h Q :=
 ⟨he,fun c xs hh hv=>(H fun b k hb=>hh.clk b (hh.blk b k hb).1).2 c xs hh hv⟩
theorem Drum.of {f:FuncId} {args:List AV} {b:Bid} {R:AV→Prop} (he:Enters P f)
  (H:∀ h x,h.at_ b=dr x→isU64 x→b.1 < h.clk→ACalls P f args h (fun v h'=>(∀ b',b'.1 < h.clk→b' ≠ b→h'.at_ b'=h.at_ b')∧(∃ x',h'.at_ b=dr x'∧isU64 x')∧h'.lp=h.lp∧R v)):Drum P f args b R:=by
 intro h x hx hu
 refine ACalls.old he fun hold=>?_
 refine (H h x hx hu (hold b _ hx)).sub ?_
 rintro v h' hb hk hg ⟨h1,⟨x',h2,h3⟩,h4,q⟩
 refine ⟨(h.put b (dr x')).tick h'.clk,fun b' k hbk=>?_,fun l r hr=>by rw [h4];exact hr,Nat.le_refl _,hg.symm,x',_,h3,hk,rfl,q⟩
 simp only[AH.tick,AH.put,upd_apply] at hbk
 split at hbk
 ·rename_i e;rw [e,h2];exact hbk
 ·rename_i e;rw [h1 b' (hb b' k hbk) e];exact hbk
def VLe (v v':AV):Prop:=∀ c x,VR c v x→VR c v' x
theorem VLe.refl (v:AV):VLe v v:=fun _ _ h=>h
theorem VLe.nils (e:Nat):VLe .nils (.lst e []):=by
 intro c x h
 simp only[VR] at h ⊢
 exact ⟨none,0,[],h,Nat.le_refl _,fun _=>trivial,by simp,.inl rfl,by simp [VRss]⟩
theorem VLe.lstx (e:Nat) (es:List (List AV)):VLe (.lstx e es) (.lst e es):=by
 intro c x h
 simp only[VR] at h ⊢
 obtain ⟨a,vs,hx,hn,hr,hat,hvs⟩:=h
 exact ⟨a,es.length,vs,hx,Nat.le_refl _,hn,hr,hat,hvs⟩
def VLes:List AV→List AV→Prop
 | [],l=>l=[]
 | v :: vs,l=>∃ v' vs',l=v' :: vs'∧VLe v v'∧VLes vs vs'
theorem VLes.refl:∀ l,VLes l l
 | []=>by simp only[VLes]
 | v :: vs=>by simp only[VLes];exact ⟨v,vs,rfl,VLe.refl v,VLes.refl vs⟩
theorem VLes.rel {c:Cx}:∀ {vs vs':List AV} {xs:List Value},VLes vs vs'→VRs c vs xs→VRs c vs' xs
 | [],_,_,h,k=>by simp only[VLes] at h;subst h;exact k
 | v :: vs,_,_,h,k=>by
  simp only[VLes] at h
  obtain ⟨v',vs',e,h1,h2⟩:=h
  subst e
  simp only[VRs] at k ⊢
  obtain ⟨x,xs,e,k1,k2⟩:=k
  exact ⟨x,xs,e,h1 _ _ k1,VLes.rel h2 k2⟩
theorem VLe.agg {vs vs':List AV} (h:VLes vs vs') (hc:vs'.all AV.cell=true):VLe (.agg vs) (.agg vs'):=by
 intro c x k
 simp only[VR] at k ⊢
 obtain ⟨xs,e,_,k⟩:=k
 exact ⟨xs,e,hc,h.rel k⟩
theorem VLe.tup {vs vs':List AV} (h:VLes vs vs'):VLe (.tup vs) (.tup vs'):=by
 intro c x k
 simp only[VR] at k ⊢
 obtain ⟨xs,e,k⟩:=k
 exact ⟨xs,e,h.rel k⟩
theorem ACalls.give {f:FuncId} {args:List AV} {h:AH} {Q:AV→AH→Prop} (H:ACalls P f args h (fun v h' =>
  (∃ v',VLe v v'∧Q v' h') ∨ ∃ b k,h'.at_ b=some k∧h.at_ b=none∧Q (frz b k v) (h'.put b none))):ACalls P f args h Q:=by
 refine ⟨H.1,fun c xs hh hv=>(H.2 c xs hh hv).mono ?_⟩
 rintro e w' ⟨v,x,c',h',rfl,rfl,hx,H',E,hdn,q⟩
 rcases q with ⟨v',hv',q'⟩|⟨b,k,hb,hnb,q'⟩
 ·exact ⟨v',x,c',h',rfl,rfl,hv' _ _ hx,H',E,hdn,q'⟩
 ·obtain ⟨H2,E2⟩:=H'.freeze hb
  exact ⟨Av.frz b k v,x,c'.freeze b,h'.put b none,rfl,rfl,VR.frz H' hb v x hx,H2,E.trans E2,hdn,q'⟩
end Go.Av
namespace Go.Av
open Go
variable {P:Program}
theorem run_equalIn_i (w:World) (d:Nat) {t:TypeId} {k:IntKind} (h:P.underlying t=some (.int k)) (q:IntKind) (a b:Int):(Op.equalIn (d+1) t (.int q a) (.int q b)).run P w=.ok (a == b) w:=by
 unfold Op.equalIn
 simp only[Sem.run_bind,Go.run_underlying h,Result.andThen_ok]
 simp
theorem run_part_i (w:World) {t:TypeId} {k:IntKind} (h:P.underlying t=some (.int k)) {xs:Array Value} {off:Nat} {v:Value} (hx:xs[off]?=some v):(part t xs off).run P w=.ok v w:=by
 simp [part,isAgg,run_underlying h,hx]
theorem run_eqFields_i (w : World) (d : Nat) : ∀ (fs : List Field) (pre xs ys : List (IntKind × Int)) (pre' : List (IntKind × Int)), pre.length = pre'.length → (∀ f ∈ fs, f.name ≠ "_" ∧ ∃ k, P.underlying f.type = some (.int k)) →
  fs.map (·.offset)=List.range' pre.length fs.length→xs.length=fs.length→xs.map (·.1)=ys.map (·.1) →
  (Op.eqFields (d+1) (ivs (pre ++ xs)).toArray (ivs (pre' ++ ys)).toArray fs).run P w=.ok (decide (xs=ys)) w
 | [],pre,xs,ys,pre',hp,hf,ho,hx,hk=>by
  obtain rfl:xs=[]:=by simpa using hx
  obtain rfl:ys=[]:=by simpa using hk.symm
  simp [Op.eqFields]
 | f :: fs,pre,xs,ys,pre',hp,hf,ho,hx,hk=>by
  match xs,ys,hx,hk with
  | [],_,hx,_=>simp at hx
  | _ :: _,[],_,hk=>simp at hk
  | (k1,a) :: xs,(k2,b) :: ys,hx,hk =>
   simp only[List.map_cons,List.cons.injEq] at hk ho
   obtain ⟨rfl,hk⟩:=hk
   simp only[List.length_cons,List.range'_succ,List.cons.injEq] at ho
   obtain ⟨ho1,ho2⟩:=ho
   obtain ⟨hn,k,hu⟩:=hf f (by simp)
   have p1:(ivs (pre ++ (k1,a) :: xs)).toArray[f.offset]?=some (.int k1 a):=by rw [ho1];simp [ivs]
   have p2:(ivs (pre' ++ (k1,b) :: ys)).toArray[f.offset]?=some (.int k1 b):=by rw [ho1,hp];simp [ivs]
   have ih:=run_eqFields_i w d fs (pre ++ [(k1,a)]) xs ys (pre' ++ [(k1,b)]) (by simp [hp]) (fun g hg=>hf g (by simp [hg])) (by simpa using ho2) (by simpa using hx) hk
   simp only[List.append_assoc,List.cons_append,List.nil_append] at ih
   simp only[Op.eqFields,hn,ne_eq,not_false_eq_true,if_true,Sem.run_bind,run_part_i w hu p1,run_part_i w hu p2,run_equalIn_i w d hu,Result.andThen_ok]
   by_cases hab:a=b
   ·subst hab;simp [ih]
   ·simp [hab]
theorem EqFact.ints {t n : Nat} {fs : Array Field} (hu : P.underlying t = some (.struct fs)) (hs : P.stoodInHeld t = false) (hg : P.eqGuardType P.depth t = false) (hf : ∀ f ∈ fs.toList, f.name ≠ "_" ∧ ∃ k, P.underlying f.type = some (.int k))
  (ho:fs.toList.map (·.offset)=List.range' 0 fs.toList.length) (hn:fs.toList.length=n):EqFact P t n:=by
 intro xs ys hx hk w x y
 have hfs:P.fieldsOf t=fs:=by simp [Program.fieldsOf,hu]
 have hE:(Op.equal t (.agg (ivs xs).toArray) (.agg (ivs ys).toArray)).run P w=.ok (decide (xs=ys)) w:=by
  unfold Op.equal Op.maxDepth
  rw [show (10000:Nat)=(9998+1)+1 from rfl,Go.run_equalIn_struct w (9998+1) t _ _ (by rw [hfs];exact hu) hs,hfs]
  exact run_eqFields_i w 9998 fs.toList [] xs ys [] rfl hf ho (by omega) hk
 have hG:∀ op:BinOp,(eqGuard op t x y (.agg (ivs xs).toArray) (.agg (ivs ys).toArray)).run P w=.ok () w:=by
  intro op
  unfold eqGuard
  cases op <;> simp [hg,program,Sem.run]
 constructor
 ·simp only[Sem.run_bind,hG,Result.andThen_ok,Go.binOp,hE,Sem.run_pure]
 ·simp only[Sem.run_bind,hG,Result.andThen_ok,Go.binOp,hE,Sem.run_pure]
theorem run_equalIn_b (w:World) (d:Nat) {t:TypeId} (h:P.underlying t=some .bool) (a b:Bool):(Op.equalIn (d+1) t (.bool a) (.bool b)).run P w=.ok (a == b) w:=by
 rw [Op.equalIn,Sem.run_bind,Go.run_underlying h];rfl
theorem run_part_b (w:World) {t:TypeId} (h:P.underlying t=some .bool) {xs:Array Value} {off:Nat} {v:Value} (hx:xs[off]?=some v):(part t xs off).run P w=.ok v w:=by
 simp [part,isAgg,run_underlying h,hx]
theorem run_eqFields_b (w : World) (d : Nat) : ∀ (fs : List Field) (pre xs ys pre' : List Bool), pre.length = pre'.length → (∀ f ∈ fs, f.name ≠ "_" ∧ P.underlying f.type = some .bool) →
  fs.map (·.offset)=List.range' pre.length fs.length→xs.length=fs.length→ys.length=fs.length →
  (Op.eqFields (d+1) (bvs (pre ++ xs)).toArray (bvs (pre' ++ ys)).toArray fs).run P w=.ok (decide (xs=ys)) w
 | [],pre,xs,ys,pre',hp,hf,ho,hx,hy=>by
  obtain rfl:xs=[]:=by simpa using hx
  obtain rfl:ys=[]:=by simpa using hy
  simp [Op.eqFields]
 | f :: fs,pre,xs,ys,pre',hp,hf,ho,hx,hy=>by
  match xs,ys,hx,hy with
  | [],_,hx,_=>simp at hx
  | _ :: _,[],_,hy=>simp at hy
  | a :: xs,b :: ys,hx,hy =>
   simp only[List.map_cons,List.length_cons,List.range'_succ,List.cons.injEq] at ho
   obtain ⟨ho1,ho2⟩:=ho
   obtain ⟨hn,hu⟩:=hf f (by simp)
   have p1:(bvs (pre ++ a :: xs)).toArray[f.offset]?=some (.bool a):=by rw [ho1];simp [bvs]
   have p2:(bvs (pre' ++ b :: ys)).toArray[f.offset]?=some (.bool b):=by rw [ho1,hp];simp [bvs]
   have ih:=run_eqFields_b w d fs (pre ++ [a]) xs ys (pre' ++ [b]) (by simp [hp]) (fun g hg=>hf g (by simp [hg])) (by simpa using ho2) (by simpa using hx) (by simpa using hy)
   simp only[List.append_assoc,List.cons_append,List.nil_append] at ih
   simp only[Op.eqFields,hn,ne_eq,not_false_eq_true,if_true,Sem.run_bind,run_part_b w hu p1,run_part_b w hu p2,run_equalIn_b w d hu,Result.andThen_ok]
   by_cases hab:a=b
   ·subst hab;simp [ih]
   ·simp [hab]
theorem EqFactB.flags {t n : Nat} {fs : Array Field} (hu : P.underlying t = some (.struct fs)) (hs : P.stoodInHeld t = false) (hg : P.eqGuardType P.depth t = false) (hf : ∀ f ∈ fs.toList, f.name ≠ "_" ∧ P.underlying f.type = some .bool)
  (ho:fs.toList.map (·.offset)=List.range' 0 fs.toList.length) (hn:fs.toList.length=n):EqFactB P t n:=by
 intro xs ys hx hy w x y
 have hfs:P.fieldsOf t=fs:=by simp [Program.fieldsOf,hu]
 have hE:(Op.equal t (.agg (bvs xs).toArray) (.agg (bvs ys).toArray)).run P w=.ok (decide (xs=ys)) w:=by
  unfold Op.equal Op.maxDepth
  rw [show (10000:Nat)=(9998+1)+1 from rfl,Go.run_equalIn_struct w (9998+1) t _ _ (by rw [hfs];exact hu) hs,hfs]
  exact run_eqFields_b w 9998 fs.toList [] xs ys [] rfl hf ho (by omega) (by omega)
 have hG:∀ op:BinOp,(eqGuard op t x y (.agg (bvs xs).toArray) (.agg (bvs ys).toArray)).run P w=.ok () w:=by
  intro op
  unfold eqGuard
  cases op <;> simp [hg,program,Sem.run]
 constructor
 ·simp only[Sem.run_bind,hG,Result.andThen_ok,Go.binOp,hE,Sem.run_pure]
 ·simp only[Sem.run_bind,hG,Result.andThen_ok,Go.binOp,hE,Sem.run_pure]
end Go.Av
namespace Go.Av
variable {P:Program} {tt:Nat→TI} {fi:FI}
@[go_sem] theorem cons_app {α:Type} (x:α) (l m:List α):(x :: l) ++ m=x :: (l ++ m):=rfl
@[go_sem] theorem nil_app {α:Type} (m:List α):[] ++ m=m:=rfl
@[go_sem] theorem zip_cons {α β:Type} (x:α) (l:List α) (y:β) (m:List β):(x :: l).zip (y :: m)=(x,y) :: l.zip m:=rfl
@[go_sem] theorem zip_nil {α β:Type}:([]:List α).zip ([]:List β)=[]:=rfl
@[go_sem] theorem take_z {α:Type} (l:List α):l.take 0=[]:=by simp
@[go_sem] theorem take_s {α:Type} (x:α) (l:List α) (n:Nat):(x :: l).take (n+1)=x :: l.take n:=by simp
@[go_sem] theorem take_n {α:Type} (n:Nat):([]:List α).take n=[]:=by simp
@[go_sem] theorem drop_z {α:Type} (l:List α):l.drop 0=l:=by simp
@[go_sem] theorem drop_s {α:Type} (x:α) (l:List α) (n:Nat):(x :: l).drop (n+1)=l.drop n:=by simp
@[go_sem] theorem drop_n {α:Type} (n:Nat):([]:List α).drop n=[]:=by simp
@[go_sem] theorem zero_mul' (n:Nat):0 * n=0:=by simp
@[go_sem] theorem mul_one' (n:Nat):n * 1=n:=by simp
@[go_sem] theorem ok_some {α:Type} (x:α) (K:α→Prop):ok (some x) K ↔ K x:=⟨fun ⟨_,e,h⟩=>by cases e;exact h,fun h=>⟨x,rfl,h⟩⟩
def bsOk (T:Nat→AV):List Nat→List Bid→Prop
 | [],[]=>True
 | t :: ts,b :: bs=>T t=.lptr b 0∧bsOk T ts bs
 | _,_=>False
theorem st_loopC {α:Type} (T0:Tab P tt) (hm:P.follows .mixedOrders=true) {c:Code} {Q:Exit→AS→Prop} {T:Nat→AV} {B:Bid→Option (List AV)} {M:List Nat} {h:AH}
  (sl:List Nat) (bs:List Bid) (hbs:bsOk T sl bs) (cl:List Nat) (cb:List Bid) (hcb:bsOk T cl cb) (V:α→List (Nat × AV)) (C:List (Nat × AV)) (VB:α→List (List AV)) (CB:List (List AV)) (inv:α→Prop) (μ:α→Nat) (hk:codeOk fi c=true)
  (a0:α) (i0:inv a0) (h1:keepOk T (V a0 ++ C)) (h2:keepBOk B (bs.zip (VB a0) ++ cb.zip CB)) {k:Nat} (hc:h.clk=k) {H':Nat→AH} (hH:∀ n,h.tick n=H' n)
  (round:∀ a n,inv a→k≤n→awp P tt fi c (thenA (fun s=>∃ a',inv a'∧μ a' < μ a∧keepOk s.tmp (V a' ++ C)∧keepBOk s.box (bs.zip (VB a') ++ cb.zip CB)∧s.mks=M∧HOld h s.h) Q) ⟨keep (V a ++ C),keepB (bs.zip (VB a) ++ cb.zip CB),M,H' n⟩) :
  awp P tt fi (.loop c) Q ⟨T,B,M,h⟩:=by
 subst hc
 refine st_loop T0 hm (fun a=>V a ++ C) (fun a=>bs.zip (VB a) ++ cb.zip CB) (fun _=>h) inv μ hk a0 i0 h1 h2 (HOld.refl h) (fun a n ha hn=>?_)
 rw [hH]
 exact round a n ha hn
theorem HOld.of (h:AH) {m n:Nat} (hn:m≤n):HOld (h.tick m) (h.tick n):=⟨fun _ _ e=>e,fun _ _ e=>e,hn,rfl⟩
theorem st_loopH {α:Type} (T0:Tab P tt) (hm:P.follows .mixedOrders=true) {c:Code} {Q:Exit→AS→Prop} {T:Nat→AV} {B:Bid→Option (List AV)} {M:List Nat} {h:AH}
  (sl:List Nat) (bs:List Bid) (hbs:bsOk T sl bs) (cl:List Nat) (cb:List Bid) (hcb:bsOk T cl cb) (V:α→List (Nat × AV)) (C:List (Nat × AV)) (VB:α→List (List AV)) (CB:List (List AV)) (H:α→AH) (inv:α→Prop) (μ:α→Nat) (hk:codeOk fi c=true)
  (a0:α) (i0:inv a0) (h1:keepOk T (V a0 ++ C)) (h2:keepBOk B (bs.zip (VB a0) ++ cb.zip CB)) (h3:HOld (H a0) h)
  (round:∀ a n,inv a→(H a).clk≤n→awp P tt fi c (thenA (fun s=>∃ a',inv a'∧μ a' < μ a∧keepOk s.tmp (V a' ++ C)∧keepBOk s.box (bs.zip (VB a') ++ cb.zip CB)∧s.mks=M∧HOld (H a') s.h) Q) ⟨keep (V a ++ C),keepB (bs.zip (VB a) ++ cb.zip CB),M,(H a).tick n⟩) :
  awp P tt fi (.loop c) Q ⟨T,B,M,h⟩ :=
 st_loop T0 hm (fun a=>V a ++ C) (fun a=>bs.zip (VB a) ++ cb.zip CB) H inv μ hk a0 i0 h1 h2 h3 round
end Go.Av
namespace Go.Av
variable {P:Program} {tt:Nat→TI} {fi:FI}
@[go_sem] theorem lpSet_at (h:AH) (l:Nat) (r:Option LRec):(h.lpSet l r).at_=h.at_:=rfl
@[go_sem] theorem lpSet_clk (h:AH) (l:Nat) (r:Option LRec):(h.lpSet l r).clk=h.clk:=rfl
theorem Drum.give {f:FuncId} {args:List AV} {b:Bid} {R:AV→Prop} (he:Enters P f)
  (H:∀ h x,h.at_ b=dr x→isU64 x→b.1 < h.clk→ACalls P f args h (fun v h'=>(∀ b',b'.1 < h.clk→b' ≠ b→h'.at_ b'=h.at_ b')∧(∃ x',h'.at_ b=dr x'∧isU64 x')∧h'.lp=h.lp ∧
   ((∃ v',VLe v v'∧R v') ∨ ∃ b2 k,h.clk≤b2.1∧h'.at_ b2=some k∧R (frz b2 k v)))):Drum P f args b R:=by
 refine Drum.of he fun h x hx hu hb=>?_
 refine ACalls.old he fun hold=>?_
 refine ((H h x hx hu hb).mono (Q':=fun v h'=>(∃ v',VLe v v'∧((∀ b',b'.1 < h.clk→b' ≠ b→h'.at_ b'=h.at_ b')∧(∃ x',h'.at_ b=dr x'∧isU64 x')∧h'.lp=h.lp∧R v')) ∨ ∃ b2 k,h'.at_ b2=some k∧h.at_ b2=none ∧
  ((∀ b',b'.1 < h.clk→b' ≠ b→(h'.put b2 none).at_ b'=h.at_ b')∧(∃ x',(h'.put b2 none).at_ b=dr x'∧isU64 x')∧(h'.put b2 none).lp=h.lp∧R (frz b2 k v))) ?_).give
 rintro v h' ⟨h1,⟨x',h2,h3⟩,h4,h5|⟨b2,k,h5,h6,h7⟩⟩
 ·obtain ⟨v',hv,hr⟩:=h5
  exact .inl ⟨v',hv,h1,⟨x',h2,h3⟩,h4,hr⟩
 ·refine .inr ⟨b2,k,h6,?_,fun b' hb' hne=>?_,⟨x',?_,h3⟩,h4,h7⟩
  ·cases e:h.at_ b2 with
   | none=>rfl
   | some k'=>exact absurd (hold b2 k' e) (by omega)
  ·rw [put_ne _ _ (fun e=>by rw [e] at hb';omega)];exact h1 b' hb' hne
  ·rw [put_ne _ _ (fun e=>by rw [e] at hb;omega)];exact h2
theorem Pure.give {f:FuncId} {args:List AV} {R:AV→Prop} (he:Enters P f)
  (H:∀ h,(∀ b k,h.at_ b=some k→b.1 < h.clk)→ACalls P f args h (fun v h'=>(∀ b',b'.1 < h.clk→h'.at_ b'=h.at_ b')∧h'.lp=h.lp ∧
   ((∃ v',VLe v v'∧R v') ∨ ∃ b2 k,h.clk≤b2.1∧h'.at_ b2=some k∧R (frz b2 k v)))):Pure P f args R:=by
 intro h
 refine ACalls.old he fun hold=>?_
 refine ACalls.forget (((H h hold).mono (Q':=fun v h'=>(∃ v',VLe v v'∧((∀ b',b'.1 < h.clk→h'.at_ b'=h.at_ b')∧h'.lp=h.lp∧R v')) ∨ ∃ b2 k,h'.at_ b2=some k∧h.at_ b2=none ∧
  ((∀ b',b'.1 < h.clk→(h'.put b2 none).at_ b'=h.at_ b')∧(h'.put b2 none).lp=h.lp∧R (frz b2 k v))) ?_).give)
 rintro v h' ⟨h1,h4,h5|⟨b2,k,h5,h6,h7⟩⟩
 ·obtain ⟨v',hv,hr⟩:=h5
  exact .inl ⟨v',hv,h1,h4,hr⟩
 ·refine .inr ⟨b2,k,h6,?_,fun b' hb'=>?_,h4,h7⟩
  ·cases e:h.at_ b2 with
   | none=>rfl
   | some k'=>exact absurd (hold b2 k' e) (by omega)
  ·rw [put_ne _ _ (fun e=>by rw [e] at hb';omega)];exact h1 b' hb'
theorem HOld.put (h:AH) {m n:Nat} (b:Bid) (k:Option Blk) (hn:m≤n):HOld ((h.tick m).put b k) ((h.tick n).put b k):=⟨fun _ _ e=>e,fun _ _ e=>e,hn,rfl⟩
theorem ASem.round (T0:Tab P tt) (hm:P.follows .mixedOrders=true) {code:Code} {l n:Nat} {Q:Exit→AS→Prop} {s:AS} (loc imm:List Nat) (ord:List (Nat × List Nat × List (Nat × Bool))) (L:List (Nat × AV)) (hL:keepOk s.tmp L) (hM:s.mks=[]) (hk:codeOk ⟨n,loc,imm,some l,ord⟩ code=true)
  (h:awp P tt ⟨n,loc,imm,some l,ord⟩ code Q ⟨keep L,keepB [],[],s.h⟩):ASem P (some l) n code Q s:=by
 have:=awp_sound T0 hm (fi:=⟨n,loc,imm,some l,ord⟩) code Q _ hk h
 refine ASem.sub ?_ this
 have h2:=Sub.of (M:=[]) (B:=s.box) (LB:=[]) hL trivial (HSub.refl s.h)
 obtain ⟨T,B,M,H⟩:=s
 dsimp only at hM
 subst hM
 exact h2
end Go.Av
namespace Go.Av
variable {P:Program} {tt:Nat→TI} {fi:FI}
def LRec.busy (R:LRec):LRec:=⟨{ R.rc with state:=.busy },R.tmp,none⟩
def LRec.stop (R:LRec) (c:Code):LRec:=⟨{ R.rc with state:=.done,pending:=some c },R.tmp,none⟩
structure RecOk (R:LRec) (n:Nat) (ps:Array Tmp) (assign body:Code) (T:Nat→AV):Prop where
 state:R.rc.state=.ready
 pend:R.rc.pending=none
 ps:R.rc.params=ps
 assign:R.rc.assign=assign
 body:R.rc.body=body
 size:R.rc.tmps.size=n
 tmp:R.tmp=hide T
 mp:R.mp=none
theorem st_rangeFunc {g:Operand} {ps:Array Tmp} {assign body:Code} {Q:Exit→AS→Prop} {T:Nat→AV} {B:Bid→Option (List AV)} {M:List Nat} {H:AH} {gf:FuncId} {first cap:List AV} (hr:fi.rnd=none) (hg:AS.ev ⟨T,B,M,H⟩ g=.fn (.func gf) first cap)
  (h:∀ (l D:Nat) (R:LRec),RecOk R fi.n ps assign body T→H.lp l=none →
   ACalls P gf (first ++ [.fn (.yield l) [] []] ++ cap) (H.lpSet l (some R)) (fun _ h'=>(h'.lp l=some R∧Q .normal ⟨T,B,D :: M,h'.lpSet l none⟩) ∨ (∃ c,h'.lp l=some (R.stop c)∧ASem P none fi.n c Q ⟨T,B,D :: M,h'.lpSet l none⟩))):awp P tt fi (.rangeFunc g ps assign body) Q ⟨T,B,M,H⟩:=by
 show ASem P fi.rnd fi.n (.rangeFunc g ps assign body) Q ⟨T,B,M,H⟩
 rw [hr]
 refine ASem.rangeFunc hg (fun l D fn tm htm hlp hD=>?_)
 refine (h l D ⟨rec0 fn tm ps assign body D,hide T,none⟩ ⟨rfl,rfl,rfl,rfl,rfl,htm,rfl,rfl⟩ hlp).mono ?_
 rintro v h' (⟨h1,h2⟩|⟨c,h1,h2⟩)
 ·exact ⟨_,h1,rfl,by simp [rec0],h2⟩
 ·exact ⟨_,h1,rfl,by simp [LRec.stop],h2⟩
def RQ2 (l:Nat) (R:LRec) (Q:AV→AH→Prop):Exit→AS→Prop:=fun e s=>s.h.lp l=some R.busy∧match e with
 | .normal=>Q (.bool true) (s.h.lpSet l (some R))
 | .ret=>Q (.bool false) (s.h.lpSet l (some (R.stop .ret)))
 | .exit id=>Q (.bool false) (s.h.lpSet l (some (R.stop (.exit id))))
 | _=>False
theorem AYields.canon (T0:Tab P tt) (hm:P.follows .mixedOrders=true) {l n:Nat} {args:List AV} {h:AH} {Q:AV→AH→Prop} {R:LRec} {ps:Array Tmp} {assign body:Code} {T:Nat→AV} (loc imm:List Nat) (ord:List (Nat × List Nat × List (Nat × Bool)))
  (hR:RecOk R n ps assign body T) (hl:h.lp l=some R) (hps:ps.size=args.length) (hpn:∀ p ∈ ps.toList,p < n) (L:List (Nat × AV)) (hL:keepOk (roundA (hide T) ps.toList args h).tmp L)
  (hk1:codeOk ⟨n,loc,imm,some l,ord⟩ assign=true) (hk2:codeOk ⟨n,loc,imm,some l,ord⟩ body=true)
  (hw:awp P tt ⟨n,loc,imm,some l,ord⟩ assign (thenA (fun s1=>s1.h.lp l=some R∧awp P tt ⟨n,loc,imm,some l,ord⟩ body (RQ2 l R Q) ⟨s1.tmp,s1.box,s1.mks,s1.h.lpSet l (some R.busy)⟩) (fun _ _=>False)) ⟨keep L,keepB [],[],h⟩):AYields P l args h Q:=by
 obtain ⟨rc,tmp,mpp⟩:=R
 obtain ⟨e1,e2,e3,e4,e5,e6,e7,e8⟩:=hR
 dsimp only at e1 e2 e3 e4 e5 e6 e7 e8
 subst e3 e4 e5 e7 e8
 refine AYields.of (R:=⟨rc,hide T,none⟩) hl rfl e1 hps e6 hpn ?_
 dsimp only
 refine ASem.mono (ASem.round T0 hm loc imm ord L hL rfl hk1 hw) ?_
 intro e s1 q
 cases e with
 | normal =>
  obtain ⟨q1,q2⟩:=q
  refine ⟨_,q1,rfl,e1,?_⟩
  dsimp only
  have:=awp_sound T0 hm (fi:=⟨n,loc,imm,some l,ord⟩) rc.body _ _ hk2 q2
  refine ASem.mono this ?_
  rintro e s2 ⟨g1,g2⟩
  have hback:({ rc with state:=LoopState.ready,pending:=none }:Loop)=rc:=by rw [← e1,← e2]
  cases e with
  | normal =>
   refine ⟨_,g1,rfl,?_⟩
   show Q (.bool true) (s2.h.lpSet l (some ⟨{ rc with state:=.ready,pending:=none },_,none⟩))
   rw [hback];exact g2
  | ret=>exact ⟨_,g1,rfl,g2⟩
  | exit id=>exact ⟨_,g1,rfl,g2⟩
  | goto t=>exact g2.elim
  | panic c=>exact g2.elim
  | outgrown=>exact g2.elim
 | exit id=>exact q.elim
 | goto t=>exact q.elim
 | ret=>exact q.elim
 | panic ch=>exact q.elim
 | outgrown=>exact q.elim
@[go_sem] theorem hide_ok {T:Nat→AV} {i:Nat}:hide T i=if noL (T i)=true then T i else .undef:=rfl
@[go_sem] theorem lpSet_same (h:AH) (l:Nat) (r:Option LRec):(h.lpSet l r).lp l=r:=by simp [AH.lpSet,upd]
theorem lpSet_ne (h:AH) {l i:Nat} (r:Option LRec) (hn:i ≠ l):(h.lpSet l r).lp i=h.lp i:=by simp [AH.lpSet,upd,hn]
end Go.Av
namespace Go.Av
variable {P:Program} {tt:Nat→TI} {fi:FI}
@[go_sem] theorem set_z {α:Type} (x y:α) (l:List α):(x :: l).set 0 y=y :: l:=rfl
@[go_sem] theorem set_s {α:Type} (x y:α) (l:List α) (n:Nat):(x :: l).set (n+1) y=x :: l.set n y:=rfl
@[go_sem] theorem getD_z {α:Type} (x d:α) (l:List α):(x :: l).getD 0 d=x:=rfl
@[go_sem] theorem len_one {α:Type} (x:α):[x].length=1:=rfl
theorem VL.frz {c:Cx} {h:AH} (H:HRel c h) {b:Bid} {k:Blk} (hb:h.at_ b=some k) {lb:Bid→Option Nat} {v:AV} {x:Value} (hv:VL c lb v x):VL (c.freeze b) lb (frz b k v) x:=by
 cases hn:noL v with
 | true=>exact (VR.frz H hb v x (hv.vr hn)).vl lb
 | false =>
  cases v <;> simp only[noL,reduceCtorEq] at hn
  simp only[Av.frz]
  exact VL.mono (Cx.freeze_le c b) (fun _ _ h=>h) hv
theorem ASem.frz {r:Option Nat} {n:Nat} {code:Code} {Q:Exit→AS→Prop} {T T':Nat→AV} {B:Bid→Option (List AV)} {M:List Nat} {H:AH} {b:Bid} {k:Blk} (hb:H.at_ b=some k) (hT:∀ t,T' t=T t ∨ T' t=frz b k (T t))
  (h:ASem P r n code Q ⟨T',B,M,H.put b none⟩):ASem P r n code Q ⟨T,B,M,H⟩:=by
 intro c0 h0 c lb a S
 obtain ⟨H2,E2⟩:=S.hr.freeze hb
 have S2:=S.go H2 E2 (fun _ h=>.inl h)
 refine h c0 h0 (c.freeze b) lb a ⟨S2.hr,⟨S2.fr.size,fun t=>?_,S2.fr.defers,S2.fr.marks,S2.fr.box,S2.fr.lbclk,S2.fr.lbinj,S2.fr.lbsize⟩,S2.evo,S2.new,S2.dn,S2.mnew⟩
 rcases hT t with e|e
 ·dsimp only;rw [e];exact S2.fr.tmps t
 ·dsimp only;rw [e];exact VL.frz S.hr hb (S.fr.tmps t)
theorem asem_awp (T:Tab P tt) (hm:P.follows .mixedOrders=true) {code:Code} {Q:Exit→AS→Prop} {s:AS} (hk:codeOk fi code=true) (h:awp P tt fi code Q s):ASem P fi.rnd fi.n code Q s:=awp_sound T hm code Q s hk h
theorem asem_seq (T:Tab P tt) (hm:P.follows .mixedOrders=true) {a b:Code} {Q:Exit→AS→Prop} {s:AS} (hk:codeOk fi a=true) (h:awp P tt fi a (thenA (fun s'=>ASem P fi.rnd fi.n b Q s') Q) s):ASem P fi.rnd fi.n (.seq a b) Q s :=
 ASem.seq (asem_awp T hm hk h)
theorem ACalls.ofS (T:Tab P tt) {f:FuncId} {fn:Func} {code:Code} {fi:FI} {args:List AV} {h:AH} {Q:AV→AH→Prop} (he:Enters P f) (hf:P.funcs[f]?=some fn) (hb:fn.body=some code)
  (hfn:fi.n=fn.ntmps) (hfr:fi.rnd=none) (hn:args.length≤fi.n) (hw:ASem P fi.rnd fi.n code (AEnd tt fn.results.toList Q) (startA args h)):ACalls P f args h Q:=by
 refine ⟨he,fun c xs H hv=>?_⟩
 refine callsIn_of_wp_marks hf hb trivial ?_
 rw [← hfn]
 have S:=startA_rel H hv hn
 rw [hfr] at hw
 refine wpIn_mono (hw c h c _ _ S) ?_
 rintro e a' w' ⟨c',lb',s',rfl,S',q⟩
 cases e with
 | normal =>
  show LeavesInM (FW none) 0 P fn a'.tmps (Ends c h Q) a'.defers .returning c'.w
  rw [S'.fr.defers]
  exact leaves_sound T (fi:=fi) _ S' rfl q
 | ret =>
  show LeavesInM (FW none) 0 P fn a'.tmps (Ends c h Q) a'.defers .returning c'.w
  rw [S'.fr.defers]
  exact leaves_sound T (fi:=fi) _ S' rfl q
 | exit id=>exact q.elim
 | goto l=>exact q.elim
 | panic ch=>exact q.elim
 | outgrown=>exact q.elim
theorem ACalls.argLe {f:FuncId} {args args':List AV} {h:AH} {Q:AV→AH→Prop} (hl:VLes args args') (H:ACalls P f args' h Q):ACalls P f args h Q :=
 ⟨H.1,fun c xs hh hv=>H.2 c xs hh (hl.rel hv)⟩
theorem Pure.argLe {f:FuncId} {args args':List AV} {R:AV→Prop} (hl:VLes args args') (H:Pure P f args' R):Pure P f args R:=fun h=>(H h).argLe hl
end Go.Av
namespace Go.Av
open Go Go.ChangeShapes Go.WideShapes Go.ChangeAt Go.RowKit
variable {P:Program}
def h00:AH:={ at_:=fun _=>none,lp:=fun _=>none,clk:=0 }
def c00 (w:World):Cx:={ w:=w,im:=fun b=>b < w.heap.size,fm:=fun _=>⟨0,0,0⟩,dom:=fun _=>False }
theorem h00_rel (w:World):HRel (c00 w) h00 :=
 ⟨fun _ h=>h.elim,fun _ _ h=>(by cases h),fun _ _ _ _ h=>(by cases h),fun _ _ h=>(by cases h),fun _ h=>h,fun _ _ h=>(by cases h),fun _ _ h=>(by cases h),fun _ _ _ _ h=>(by cases h),fun _ _ h=>(by cases h)⟩
theorem ACalls.walk {f:FuncId} {args:List AV} {w:World} {xs:List Value} (H:ACalls P f args h00 (fun v _=>v=.bool true)) (hv:VRs (c00 w) args xs) :
  Calls P f xs.toArray w (fun e w'=>e=.returned (.bool true)∧Below w.heap.size w w'):=by
 have h:=H.2 (c00 w) xs (h00_rel w) hv
 refine CallsIn.calls (h.mono ?_) (fun _=>by intro d hd;cases hd)
 rintro e w' ⟨v,x,c',h',rfl,rfl,hx,_,E,_,rfl⟩
 simp only[VR] at hx
 subst hx
 exact ⟨rfl,⟨E.os,E.tape,E.out,E.size,fun k hk=>E.keep k hk (by rintro (⟨a,q,h1,_⟩|⟨r,h1⟩) <;> cases h1)⟩⟩
def IsRow (k:IntKind) (w:World) (a:Option Addr) (len cap:Nat) (zs:List Int):Prop :=
 (a=none∧len=0∧cap=0∧zs=[]) ∨
 ∃ x,a=some x∧len≤cap∧cap≤maxLen∧zs.length=cap∧(∀ i,i < zs.length→w.cell? (x.add i)=some (.int k (zs.getD i 0)))∧∀ n ∈ zs,(Lit.int k n).wf=true
theorem IsRow.vr {k:IntKind} {w:World} {a:Option Addr} {len cap:Nat} {zs:List Int} (h:IsRow k w a len cap zs):VR (c00 w) (.lst 1 ((zs.take len).map fun n=>[.int k n])) (.slice a len cap)∧(zs.take len).length=len∧len≤maxLen:=by
 rcases h with ⟨rfl,rfl,rfl,rfl⟩|⟨x,rfl,h1,h2,h3,h4,h5⟩
 ·refine ⟨?_,rfl,Nat.zero_le _⟩
  simp only[VR]
  exact ⟨none,0,[],rfl,Nat.le_refl _,fun _=>rfl,by simp,.inl rfl,by simp [VRss]⟩
 ·have hl:(zs.take len).length=len:=by rw [List.length_take];omega
  refine ⟨?_,hl,by omega⟩
  simp only[VR]
  refine ⟨some x,cap,(zs.take len).map fun n=>[.int k n],(by rw [List.length_map,hl]),(by rw [List.length_map,hl];exact h1),(fun h=>by cases h),?_,?_,?_⟩
  ·intro r hr
   obtain ⟨n,_,rfl⟩:=List.mem_map.1 hr
   exact ⟨rfl,rfl⟩
  ·by_cases h0:len=0
   ·subst h0;exact .inl rfl
   ·have hc:=h4 0 (by omega)
    obtain ⟨b,off,spot⟩:=x
    have hspot:spot=none:=by simpa [Addr.add] using World.cell?_spot hc
    subst hspot
    refine .inr ⟨b,off,rfl,?_,?_⟩
    ·show b < w.heap.size
     have hc0:w.cell? ⟨b,off,none⟩=some (.int k (zs.getD 0 0)):=by simpa [Addr.add] using hc
     cases hb:w.heap[b]? with
     | some o=>exact (Array.getElem?_eq_some_iff.1 hb).1
     | none=>simp [World.cell?,hb] at hc0
    ·intro i row hi
     rw [List.getElem?_map] at hi
     obtain ⟨n,hn,rfl⟩:=Option.map_eq_some_iff.1 hi
     intro j v hj
     have hj0:j=0:=by
      rcases j with _|j
      ·rfl
      ·simp at hj
     subst hj0
     simp only[List.getElem?_cons_zero,Option.some.injEq] at hj
     subst hj
     rw [List.getElem?_take] at hn
     split at hn
     ·rename_i hlt
      have hi':i < zs.length:=by omega
      have:=h4 i hi'
      rw [List.getD_eq_getElem?_getD,hn] at this
      by_cases hi0:i=0
      ·subst hi0;simpa [Addr.add,c00] using this
      ·simpa [Addr.add,c00,hi0] using this
     ·cases hn
  ·have aux:∀ l:List Int,VRss (c00 w) (l.map fun n=>[AV.int k n]) (l.map fun n=>[Value.int k n]):=by
    intro l
    induction l with
    | nil=>simp [VRss]
    | cons n l ih =>
     simp only[List.map_cons,VRss]
     exact ⟨_,_,rfl,VRs.cons (by simp [VR]) VRs.nil,ih⟩
   exact aux _
end Go.Av
namespace Go.Av
open Go
variable {P:Program} {H:Type} {enc:TypeId × Value→H} {w:World} {spare:Nat→Bool} {held:Bool}
end Go.Av
namespace Go.Av
open Go
variable {P:Program}
structure FldEq (P:Program) (d:Nat) (f:Field) (m:Nat):Prop where
 nm : f.name ≠ "_"
 run:∀ (w:World) (pre pre' xs ys post post':List (IntKind × Int)),pre.length=f.offset→pre'.length=f.offset→xs.length=m→xs.map (·.1)=ys.map (·.1) →
  ∃ a b,(part f.type (ivs (pre ++ (xs ++ post))).toArray f.offset).run P w=.ok a w∧(part f.type (ivs (pre' ++ (ys ++ post'))).toArray f.offset).run P w=.ok b w∧(Op.equalIn d f.type a b).run P w=.ok (decide (xs=ys)) w
theorem FldEq.int {d : Nat} {f : Field} {k : IntKind} (hn : f.name ≠ "_") (h : P.underlying f.type = some (.int k)) : FldEq P (d + 1) f 1 := by
 refine ⟨hn,fun w pre pre' xs ys post post' h1 h2 hx hk=>?_⟩
 match xs,ys,hx,hk with
 | [(k1,a)],[(k2,b)],_,hk =>
  simp only[List.map_cons,List.map_nil,List.cons.injEq,and_true] at hk
  subst hk
  refine ⟨.int k1 a,.int k1 b,run_part_i w h (by rw [← h1];simp [ivs]),run_part_i w h (by rw [← h2];simp [ivs]),?_⟩
  rw [run_equalIn_i w d h]
  by_cases e:a=b <;> simp [e]
 | [_],[],_,hk=>simp at hk
 | [_],_ :: _ :: _,_,hk=>simp at hk
theorem run_part_s (w:World) {t:TypeId} {fs:Array Field} {i:TypeInfo} (h:P.underlying t=some (.struct fs)) (hi:P.info? t=some i) {pre xs post:List (IntKind × Int)} {off:Nat} (ho:pre.length=off) (hx:xs.length=i.size) :
  (part t (ivs (pre ++ (xs ++ post))).toArray off).run P w=.ok (.agg (ivs xs).toArray) w:=by
 have hs:(sizeOf t).run P w=.ok i.size w:=run_sizeOf' hi
 have e:(ivs (pre ++ (xs ++ post))).toArray.extract off (off+i.size)=(ivs xs).toArray:=by
  rw [List.extract_toArray]
  congr 1
  have e1:ivs (pre ++ (xs ++ post))=ivs pre ++ (ivs xs ++ ivs post):=by simp [ivs]
  have l1:(ivs pre).length=off:=by simp [ivs,ho]
  have l2:(ivs xs).length=i.size:=by simp [ivs,hx]
  rw [e1,List.extract_eq_take_drop]
  rw [List.drop_append_of_le_length (by omega),List.drop_of_length_le (by omega)]
  rw [List.nil_append,List.take_append_of_le_length (by omega),List.take_of_length_le (by omega)]
 unfold part
 simp only[Sem.run_bind,run_isAgg' h,Result.andThen_ok,TypeDesc.isRow,if_true,hs,Sem.run_pure,e]
theorem FldEq.struct {d : Nat} {f : Field} {m : Nat} {fs : Array Field} {i : TypeInfo} (hn : f.name ≠ "_") (hu : P.underlying f.type = some (.struct fs)) (hi : P.info? f.type = some i) (hm : i.size = m) (hs : P.stoodInHeld f.type = false)
  (hf : ∀ g ∈ fs.toList, g.name ≠ "_" ∧ ∃ k, P.underlying g.type = some (.int k)) (ho : fs.toList.map (·.offset) = List.range' 0 fs.toList.length) (hl : fs.toList.length = m) : FldEq P (d + 2) f m := by
 refine ⟨hn,fun w pre pre' xs ys post post' h1 h2 hx hk=>?_⟩
 have hy:ys.length=m:=by have:=congrArg List.length hk;simp only[List.length_map] at this;omega
 refine ⟨_,_,run_part_s w hu hi h1 (by omega),run_part_s w hu hi h2 (by omega),?_⟩
 have hfs:P.fieldsOf f.type=fs:=by simp [Program.fieldsOf,hu]
 rw [Go.run_equalIn_struct w (d+1) f.type _ _ (by rw [hfs];exact hu) hs,hfs]
 exact run_eqFields_i w d fs.toList [] xs ys [] rfl hf ho (by omega) hk
def offOk:List (Field × Nat)→Nat→Prop
 | [],_=>True
 | p :: ps,n=>p.1.offset=n∧offOk ps (n+p.2)
theorem run_eqFields_n (w:World) (d:Nat):∀ (ps:List (Field × Nat)) (pre xs ys pre':List (IntKind × Int)),pre.length=pre'.length→(∀ p ∈ ps,FldEq P d p.1 p.2)→offOk ps pre.length→xs.length=(ps.map (·.2)).sum→xs.map (·.1)=ys.map (·.1) →
  (Op.eqFields d (ivs (pre ++ xs)).toArray (ivs (pre' ++ ys)).toArray (ps.map (·.1))).run P w=.ok (decide (xs=ys)) w
 | [],pre,xs,ys,pre',hp,hf,ho,hx,hk=>by
  obtain rfl:xs=[]:=by simpa using hx
  obtain rfl:ys=[]:=by simpa using hk.symm
  simp [Op.eqFields]
 | p :: ps,pre,xs,ys,pre',hp,hf,ho,hx,hk=>by
  obtain ⟨ho1,ho2⟩:=ho
  obtain ⟨hn,H⟩:=hf p (by simp)
  have hy:ys.length=xs.length:=by have:=congrArg List.length hk;simp only[List.length_map] at this;omega
  simp only[List.map_cons,List.sum_cons] at hx
  have ex:xs=xs.take p.2 ++ xs.drop p.2:=(List.take_append_drop _ _).symm
  have ey:ys=ys.take p.2 ++ ys.drop p.2:=(List.take_append_drop _ _).symm
  have lx:(xs.take p.2).length=p.2:=by rw [List.length_take];omega
  have ly:(ys.take p.2).length=p.2:=by rw [List.length_take];omega
  have hk1:(xs.take p.2).map (·.1)=(ys.take p.2).map (·.1):=by rw [List.map_take,List.map_take,hk]
  have hk2:(xs.drop p.2).map (·.1)=(ys.drop p.2).map (·.1):=by rw [List.map_drop,List.map_drop,hk]
  have ld:(xs.drop p.2).length=(ps.map (·.2)).sum:=by rw [List.length_drop];omega
  generalize xs.take p.2=x1 at *
  generalize xs.drop p.2=x2 at *
  generalize ys.take p.2=y1 at *
  generalize ys.drop p.2=y2 at *
  subst ex ey
  obtain ⟨a,b,q1,q2,q3⟩:=H w pre pre' x1 y1 x2 y2 ho1.symm (by omega) lx hk1
  have ih:=run_eqFields_n w d ps (pre ++ x1) x2 y2 (pre' ++ y1) (by simp [hp,lx,ly]) (fun g hg=>hf g (by simp [hg])) (by rw [List.length_append,lx];exact ho2) ld hk2
  simp only[List.append_assoc] at ih
  simp only[List.map_cons,Op.eqFields,hn,ne_eq,not_false_eq_true,if_true,Sem.run_bind,q1,q2,q3,Result.andThen_ok]
  by_cases hab:x1=y1
  ·subst hab;simp [ih]
  ·have hne:¬ x1 ++ x2=y1 ++ y2:=fun e=>hab (List.append_inj_left e (by omega))
   simp [hab,hne]
theorem EqFact.nest {t n:Nat} {fs:Array Field} (ps:List (Field × Nat)) (hu:P.underlying t=some (.struct fs)) (hs:P.stoodInHeld t=false) (hg:P.eqGuardType P.depth t=false) (hp:ps.map (·.1)=fs.toList) (hf:∀ p ∈ ps,FldEq P 9999 p.1 p.2)
  (ho:offOk ps 0) (hn:(ps.map (·.2)).sum=n):EqFact P t n:=by
 intro xs ys hx hk w x y
 have hfs:P.fieldsOf t=fs:=by simp [Program.fieldsOf,hu]
 have hE:(Op.equal t (.agg (ivs xs).toArray) (.agg (ivs ys).toArray)).run P w=.ok (decide (xs=ys)) w:=by
  unfold Op.equal Op.maxDepth
  rw [show (10000:Nat)=9999+1 from rfl,Go.run_equalIn_struct w 9999 t _ _ (by rw [hfs];exact hu) hs,hfs,← hp]
  exact run_eqFields_n w 9999 ps [] xs ys [] rfl hf ho (by omega) hk
 have hG:∀ op:BinOp,(eqGuard op t x y (.agg (ivs xs).toArray) (.agg (ivs ys).toArray)).run P w=.ok () w:=by
  intro op
  unfold eqGuard
  cases op <;> simp [hg,program,Sem.run]
 constructor
 ·simp only[Sem.run_bind,hG,Result.andThen_ok,Go.binOp,hE,Sem.run_pure]
 ·simp only[Sem.run_bind,hG,Result.andThen_ok,Go.binOp,hE,Sem.run_pure]
theorem EqFact.nestZ {t n:Nat} {fs:Array Field} (ms:List Nat) (hu:P.underlying t=some (.struct fs)) (hs:P.stoodInHeld t=false) (hg:P.eqGuardType P.depth t=false) (hp:(List.zip fs.toList ms).map (·.1)=fs.toList) (hf:∀ p ∈ List.zip fs.toList ms,FldEq P 9999 p.1 p.2)
  (ho:offOk (List.zip fs.toList ms) 0) (hn:((List.zip fs.toList ms).map (·.2)).sum=n):EqFact P t n:=EqFact.nest _ hu hs hg hp hf ho hn
end Go.Av
namespace Go.Av
open Go Go.WideShapes
variable {P:Program} {H:Type} {enc:TypeId × Value→H} {w:World} {spare:Nat→Bool} {held:Bool}
end Go.Av
