/- Our own logic over the model: abstract values, an abstract heap, and what a piece of code asks of them. Lean checks it. Conditions: none. -/
import Derived.Deep.MidRow
import Derived.RangeFuncIn
import Derived.RangeFuncLeaves
import Derived.WalkKit
import Derived.Laws.BytesString
import Derived.Laws.Cells
import Derived.Laws.MakeOwn
import Derived.MapKept
set_option linter.all false
set_option linter.unusedSimpArgs false
set_option linter.unusedVariables false
namespace Go.Av
abbrev Bid:=Nat × Nat
inductive AV where
 | undef
 | bool (b:Bool)
 | int (k:IntKind) (n:Int)
 | str (s:List UInt8)
 | nilp
 | ptr (b:Bid) (i j:Nat)
 | lptr (t:Bid) (j:Nat)
 | iptr (cs:List AV) (j:Nat)
 | nils
 | slc (b:Bid) (e i n:Nat)
 | lst (e:Nat) (es:List (List AV))
 | agg (cs:List AV)
 | tup (vs:List AV)
 | fn (f:Fn) (first cap:List AV)
 | nilfn
 | nilif
 | ifc
 | mp (l:Nat)
 | nilm
 | gptr (g j:Nat)
 | lstx (e:Nat) (es:List (List AV))
 | aptr (b:Bid) (m j:Nat)
 | ani
 deriving Inhabited
def AV.cell:AV→Bool
 | .agg _|.tup _|.undef=>false
 | _=>true
structure Loc where
 blk:Nat
 esz:Nat
 tot:Nat
structure Cx where
 w:World
 im:Nat→Prop
 fm:Bid→Loc
 dom:Bid→Prop
def lstAt (c:Cx) (e:Nat) (a:Option Addr) (vs:List (List Value)):Prop :=
 vs=[] ∨ ∃ b o,a=some ⟨b,o,none⟩∧c.im b∧∀ i row,vs[i]?=some row→c.w.rangeAt b (o+i * e) row
mutual
def VR (c:Cx):AV→Value→Prop
 | .undef,_=>True
 | .bool b,v=>v=.bool b
 | .int k n,v=>v=.int k n
 | .str s,v=>v=.string ⟨s.toArray⟩
 | .nilp,v=>v=.pointer none
 | .ptr b i j,v=>c.dom b∧v=.pointer (some ⟨(c.fm b).blk,i * (c.fm b).esz+j,none⟩)
 | .lptr _ _,_=>False
 | .iptr cs j,v=>∃ b o xs,v=.pointer (some ⟨b,o+j,none⟩)∧c.im b∧c.w.rangeAt b o xs∧cs.all AV.cell=true∧VRs c cs xs
 | .nils,v=>v=.slice none 0 0
 | .slc b e i n,v=>c.dom b∧e=(c.fm b).esz∧∃ a cap,n≤cap∧cap≤maxLen∧(i+cap) * e≤(c.fm b).tot ∧
   v=.slice (some a) n cap∧(cap ≠ 0→a=⟨(c.fm b).blk,i * e,none⟩)
 | .lst e es,v=>∃ a cap vs,v=.slice a es.length cap∧es.length≤cap∧(a=none→es=[])∧(∀ r ∈ es,r.length=e∧r.all AV.cell=true)∧lstAt c e a vs∧VRss c es vs
 | .agg cs,v=>∃ xs,v=.agg xs.toArray∧cs.all AV.cell=true∧VRs c cs xs
 | .tup cs,v=>∃ xs,v=.tuple xs.toArray∧VRs c cs xs
 | .fn f first cap,v=>∃ xs ys,v=.func f xs.toArray ys.toArray∧VRs c first xs∧VRs c cap ys
 | .nilfn,v=>v=.nilFunc
 | .nilif,v=>v=.nilIface
 | .ifc,v=>∃ t x,v=.iface t x
 | .mp l,v=>v=.map (some l)
 | .nilm,v=>v=.map none
 | .gptr g j,v=>v=.pointer (some ⟨g,j,none⟩)
 | .ani,v=>∃ n,v=.int .i64 n
 | .aptr b m j,v=>c.dom b∧(c.fm b).esz=1∧m≤(c.fm b).tot∧v=.pointer (some ⟨(c.fm b).blk,j,none⟩)
 | .lstx e es,v=>∃ a vs,v=.slice a es.length es.length∧(a=none→es=[])∧(∀ r ∈ es,r.length=e∧r.all AV.cell=true)∧lstAt c e a vs∧VRss c es vs
def VRs (c:Cx):List AV→List Value→Prop
 | [],l=>l=[]
 | v :: vs,l=>∃ x xs,l=x :: xs∧VR c v x∧VRs c vs xs
def VRss (c:Cx):List (List AV)→List (List Value)→Prop
 | [],l=>l=[]
 | r :: rs,l=>∃ x xs,l=x :: xs∧VRs c r x∧VRss c rs xs
end
structure Cx.Le (c c':Cx):Prop where
 dom:∀ b,c.dom b→c'.dom b
 fm:∀ b,c.dom b→c'.fm b=c.fm b
 im:∀ b,c.im b→c'.im b
 cells:∀ b,c.im b→c'.w.heap[b]?=c.w.heap[b]?
theorem Cx.Le.refl (c:Cx):c.Le c:=⟨fun _ h=>h,fun _ _=>rfl,fun _ h=>h,fun _ _=>rfl⟩
theorem Cx.Le.trans {a b c:Cx} (h:a.Le b) (k:b.Le c):a.Le c :=
  ⟨fun x hx=>k.dom x (h.dom x hx),fun x hx=>(k.fm x (h.dom x hx)).trans (h.fm x hx),fun x hx=>k.im x (h.im x hx),
   fun x hx=>(k.cells x (h.im x hx)).trans (h.cells x hx)⟩
theorem rangeAt_of_block {w w':World} {b o:Nat} {cs:List Value} (h:w'.heap[b]?=w.heap[b]?) (hr:w.rangeAt b o cs):w'.rangeAt b o cs :=
 fun j v hv=>(World.cell?_of_block (w:=w) (a:=⟨b,o+j,none⟩) h).trans (hr j v hv)
theorem lstAt.mono {c c':Cx} (hc:c.Le c') {e:Nat} {a:Option Addr} {vs:List (List Value)} (h:lstAt c e a vs):lstAt c' e a vs:=by
 rcases h with h|⟨b,o,ha,hi,hr⟩
 ·exact .inl h
 ·exact .inr ⟨b,o,ha,hc.im b hi,fun i row hrow=>rangeAt_of_block (hc.cells b hi) (hr i row hrow)⟩
mutual
theorem VR.mono {c c':Cx} (hc:c.Le c'):∀ (v:AV) (x:Value),VR c v x→VR c' v x
 | .undef,_,_=>by simp [VR]
 | .bool _,_,h=>by simpa [VR] using h
 | .int _ _,_,h=>by simpa [VR] using h
 | .str _,_,h=>by simpa [VR] using h
 | .nilp,_,h=>by simpa [VR] using h
 | .ptr b i j,x,h=>by
  simp only[VR] at h ⊢
  obtain ⟨hb,hx⟩:=h
  rw [hc.fm b hb]
  exact ⟨hc.dom b hb,hx⟩
 | .iptr cs j,x,h=>by
  simp only[VR] at h ⊢
  obtain ⟨b,o,xs,hx,hi,hr,hcs,hv⟩:=h
  exact ⟨b,o,xs,hx,hc.im b hi,rangeAt_of_block (hc.cells b hi) hr,hcs,VRs.mono hc cs xs hv⟩
 | .lptr _ _,_,h=>by simp [VR] at h
 | .nils,_,h=>by simpa [VR] using h
 | .slc b e i n,x,h=>by
  simp only[VR] at h ⊢
  obtain ⟨hb,he,a,cap,h1,h2,h3,hx⟩:=h
  rw [hc.fm b hb]
  exact ⟨hc.dom b hb,he,a,cap,h1,h2,h3,hx⟩
 | .lst e es,x,h=>by
  simp only[VR] at h ⊢
  obtain ⟨a,cap,vs,hx,hcap,hn,hr,hat,hvs⟩:=h
  exact ⟨a,cap,vs,hx,hcap,hn,hr,hat.mono hc,VRss.mono hc es vs hvs⟩
 | .agg cs,x,h=>by
  simp only[VR] at h ⊢
  obtain ⟨xs,hx,hcs,hv⟩:=h
  exact ⟨xs,hx,hcs,VRs.mono hc cs xs hv⟩
 | .tup cs,x,h=>by
  simp only[VR] at h ⊢
  obtain ⟨xs,hx,hv⟩:=h
  exact ⟨xs,hx,VRs.mono hc cs xs hv⟩
 | .fn f first cap,x,h=>by
  simp only[VR] at h ⊢
  obtain ⟨xs,ys,hx,h1,h2⟩:=h
  exact ⟨xs,ys,hx,VRs.mono hc first xs h1,VRs.mono hc cap ys h2⟩
 | .nilfn,_,h=>by simpa [VR] using h
 | .nilif,_,h=>by simpa [VR] using h
 | .ifc,_,h=>by simpa [VR] using h
 | .mp _,_,h=>by simpa [VR] using h
 | .nilm,_,h=>by simpa [VR] using h
 | .gptr _ _,_,h=>by simpa [VR] using h
 | .ani,_,h=>by simpa [VR] using h
 | .aptr b m j,x,h=>by
  simp only[VR] at h ⊢
  obtain ⟨hb,he,hm,hx⟩:=h
  rw [hc.fm b hb]
  exact ⟨hc.dom b hb,he,hm,hx⟩
 | .lstx e es,x,h=>by
  simp only[VR] at h ⊢
  obtain ⟨a,vs,hx,hn,hr,hat,hvs⟩:=h
  exact ⟨a,vs,hx,hn,hr,hat.mono hc,VRss.mono hc es vs hvs⟩
theorem VRs.mono {c c':Cx} (hc:c.Le c'):∀ (vs:List AV) (xs:List Value),VRs c vs xs→VRs c' vs xs
 | [],_,h=>by simpa [VRs] using h
 | v :: vs,l,h=>by
  simp only[VRs] at h ⊢
  obtain ⟨x,xs,hx,h1,h2⟩:=h
  exact ⟨x,xs,hx,VR.mono hc v x h1,VRs.mono hc vs xs h2⟩
theorem VRss.mono {c c':Cx} (hc:c.Le c'):∀ (vs:List (List AV)) (xs:List (List Value)),VRss c vs xs→VRss c' vs xs
 | [],_,h=>by simpa [VRss] using h
 | v :: vs,l,h=>by
  simp only[VRss] at h ⊢
  obtain ⟨x,xs,hx,h1,h2⟩:=h
  exact ⟨x,xs,hx,VRs.mono hc v x h1,VRss.mono hc vs xs h2⟩
end
theorem VRs.length {c:Cx}:∀ {vs:List AV} {xs:List Value},VRs c vs xs→xs.length=vs.length
 | [],_,h=>by simp only[VRs] at h;subst h;rfl
 | v :: vs,_,h=>by simp only[VRs] at h;obtain ⟨x,xs,rfl,_,h2⟩:=h;simp [VRs.length h2]
theorem VRs.get {c:Cx}:∀ {vs:List AV} {xs:List Value},VRs c vs xs→∀ (i:Nat) v,vs[i]?=some v→∃ x,xs[i]?=some x∧VR c v x
 | [],_,_,i,v,hv=>by simp at hv
 | u :: vs,_,h,i,v,hv=>by
  simp only[VRs] at h
  obtain ⟨x,xs,rfl,h1,h2⟩:=h
  cases i with
  | zero=>simp at hv;subst hv;exact ⟨x,rfl,h1⟩
  | succ i=>simpa using VRs.get h2 i v (by simpa using hv)
theorem VRs.get' {c:Cx} {vs:List AV} {xs:List Value} (h:VRs c vs xs) (i:Nat) (x:Value) (hx:xs[i]?=some x):∃ v,vs[i]?=some v∧VR c v x:=by
 have hi:i < vs.length:=by rw [← h.length];exact (List.getElem?_eq_some_iff.1 hx).1
 obtain ⟨x',hx',hv⟩:=h.get i _ (List.getElem?_eq_getElem hi)
 rw [hx] at hx'
 cases hx'
 exact ⟨_,List.getElem?_eq_getElem hi,hv⟩
theorem VRs.of_get {c:Cx}:∀ {vs:List AV} {xs:List Value},xs.length=vs.length→(∀ (i:Nat) v x,vs[i]?=some v→xs[i]?=some x→VR c v x)→VRs c vs xs
 | [],xs,hl,_=>by simp only[VRs];exact List.eq_nil_of_length_eq_zero (by simpa using hl)
 | v :: vs,[],hl,_=>by simp at hl
 | v :: vs,x :: xs,hl,h=>by
  simp only[VRs]
  exact ⟨x,xs,rfl,h 0 v x rfl rfl,VRs.of_get (by simpa using hl) (fun i u y hu hy=>h (i+1) u y (by simpa using hu) (by simpa using hy))⟩
theorem VRs.append {c:Cx}:∀ {vs ws:List AV} {xs ys:List Value},VRs c vs xs→VRs c ws ys→VRs c (vs ++ ws) (xs ++ ys)
 | [],_,_,_,h,k=>by simp only[VRs] at h;subst h;exact k
 | v :: vs,_,_,_,h,k=>by
  simp only[VRs] at h
  obtain ⟨x,xs,rfl,h1,h2⟩:=h
  simp only[List.cons_append,VRs]
  exact ⟨x,_,rfl,h1,VRs.append h2 k⟩
theorem VRs.nil {c:Cx}:VRs c [] []:=by simp [VRs]
theorem VRs.cons {c:Cx} {v:AV} {x:Value} {vs:List AV} {xs:List Value} (h:VR c v x) (k:VRs c vs xs):VRs c (v :: vs) (x :: xs):=by
 simp only[VRs];exact ⟨x,xs,rfl,h,k⟩
theorem VRs.take {c:Cx} {vs:List AV} {xs:List Value} (h:VRs c vs xs) (n:Nat):VRs c (vs.take n) (xs.take n) :=
 VRs.of_get (by simp [h.length]) (fun i v x hv hx=>by
  rw [List.getElem?_take] at hv hx
  split at hv
  ·simp_all
   obtain ⟨x',hx',hr⟩:=h.get i v hv
   rw [hx] at hx';cases hx';exact hr
  ·cases hv)
theorem VRs.drop {c:Cx} {vs:List AV} {xs:List Value} (h:VRs c vs xs) (n:Nat):VRs c (vs.drop n) (xs.drop n) :=
 VRs.of_get (by simp [h.length]) (fun i v x hv hx=>by
  rw [List.getElem?_drop] at hv hx
  obtain ⟨x',hx',hr⟩:=h.get _ v hv
  rw [hx] at hx';cases hx';exact hr)
theorem VRs.set {c:Cx} {vs:List AV} {xs:List Value} (h:VRs c vs xs) (n:Nat) {v:AV} {x:Value} (hv:VR c v x):VRs c (vs.set n v) (xs.set n x) :=
 VRs.of_get (by simp [h.length]) (fun i u y hu hy=>by
  rw [List.getElem?_set] at hu hy
  by_cases hni:n=i
  ·subst hni
   have hl:=h.length
   by_cases hlt:n < vs.length
   ·have hlt':n < xs.length:=by omega
    simp [hlt] at hu;simp [hlt'] at hy;subst hu;subst hy;exact hv
   ·simp [hlt] at hu
  ·simp [hni] at hu hy
   obtain ⟨x',hx',hr⟩:=h.get i u hu
   rw [hy] at hx';cases hx';exact hr)
theorem VRss.length {c:Cx}:∀ {vs:List (List AV)} {xs:List (List Value)},VRss c vs xs→xs.length=vs.length
 | [],_,h=>by simp only[VRss] at h;subst h;rfl
 | v :: vs,_,h=>by simp only[VRss] at h;obtain ⟨x,xs,rfl,_,h2⟩:=h;simp [VRss.length h2]
theorem VRss.get {c:Cx}:∀ {vs:List (List AV)} {xs:List (List Value)},VRss c vs xs→∀ (i:Nat) v,vs[i]?=some v→∃ x,xs[i]?=some x∧VRs c v x
 | [],_,_,i,v,hv=>by simp at hv
 | u :: vs,_,h,i,v,hv=>by
  simp only[VRss] at h
  obtain ⟨x,xs,rfl,h1,h2⟩:=h
  cases i with
  | zero=>simp at hv;subst hv;exact ⟨x,rfl,h1⟩
  | succ i=>simpa using VRss.get h2 i v (by simpa using hv)
theorem VRss.of_get {c:Cx}:∀ {vs:List (List AV)} {xs:List (List Value)},xs.length=vs.length→(∀ (i:Nat) v x,vs[i]?=some v→xs[i]?=some x→VRs c v x)→VRss c vs xs
 | [],xs,hl,_=>by simp only[VRss];exact List.eq_nil_of_length_eq_zero (by simpa using hl)
 | v :: vs,[],hl,_=>by simp at hl
 | v :: vs,x :: xs,hl,h=>by
  simp only[VRss]
  exact ⟨x,xs,rfl,h 0 v x rfl rfl,VRss.of_get (by simpa using hl) (fun i u y hu hy=>h (i+1) u y (by simpa using hu) (by simpa using hy))⟩
theorem VR.oneCell {c:Cx} {v:AV} {x:Value} (h:VR c v x) (hv:v.cell=true):x.oneCell'=true:=by
 cases v <;> simp only[AV.cell,Bool.false_eq_true] at hv <;> simp only[VR] at h
 all_goals first
  | exact h.elim
  | (subst h;rfl)
  | (obtain ⟨_,rfl⟩:=h;rfl)
  | (obtain ⟨_,_,rfl⟩:=h;rfl)
  | (obtain ⟨_,_,_,rfl⟩:=h;rfl)
  | (obtain ⟨_,_,_,_,_,_,_,rfl,_⟩:=h;rfl)
  | (obtain ⟨_,_,_,rfl,_⟩:=h;rfl)
  | (obtain ⟨_,_,rfl,_⟩:=h;rfl)
theorem VRs.oneCells {c:Cx} {vs:List AV} {xs:List Value} (h:VRs c vs xs) (hv:vs.all AV.cell=true):∀ x ∈ xs,x.oneCell'=true:=by
 intro x hx
 obtain ⟨i,hi⟩:=List.getElem?_of_mem hx
 obtain ⟨v,hv',hr⟩:=h.get' i x hi
 exact hr.oneCell (List.all_eq_true.1 hv v (List.mem_of_getElem? hv'))
end Go.Av
namespace Go.Av
structure Blk where
 esz:Nat
 es:List (List AV)
inductive MO where
 | m (l:List (Int × AV))
 | o (cs:Array Value) (ty:TypeId)
structure LRec where
 rc:Loop
 tmp:Nat→AV
 mp:Option MO
structure AH where
 at_:Bid→Option Blk
 clk:Nat
 lp:Nat→Option LRec
 gl:Nat→Option (List AV):=fun _=>none
def upd {κ α:Type} [DecidableEq κ] (f:κ→α) (k:κ) (v:α):κ→α:=fun i=>if i=k then v else f i
@[simp] theorem upd_same {κ α:Type} [DecidableEq κ] (f:κ→α) (k:κ) (v:α):upd f k v k=v:=by simp [upd]
theorem upd_ne {κ α:Type} [DecidableEq κ] (f:κ→α) {k i:κ} (v:α) (h:i ≠ k):upd f k v i=f i:=by simp [upd,h]
theorem upd_apply {κ α:Type} [DecidableEq κ] (f:κ→α) (k i:κ) (v:α):upd f k v i=if i=k then v else f i:=rfl
theorem upd_comm {κ α:Type} [DecidableEq κ] (f:κ→α) {k i:κ} (v u:α) (h:i ≠ k):upd (upd f k v) i u=upd (upd f i u) k v:=by
 funext x;simp only[upd];split <;> split <;> simp_all
theorem upd_upd {κ α:Type} [DecidableEq κ] (f:κ→α) (k:κ) (v u:α):upd (upd f k v) k u=upd f k u:=by
 funext x;simp only[upd];split <;> rfl
def AH.put (h:AH) (b:Bid) (k:Option Blk):AH:={ h with at_:=upd h.at_ b k }
def AH.tick (h:AH) (n:Nat):AH:={ h with clk:=n }
def AH.lpSet (h:AH) (l:Nat) (r:Option LRec):AH:={ h with lp:=upd h.lp l r }
def rowsOk (e:Nat) (es:List (List AV)):Prop:=∀ r ∈ es,r.length=e∧r.all AV.cell=true
def BRel (c:Cx) (b:Bid) (k:Blk):Prop :=
 c.dom b∧k.esz=(c.fm b).esz∧rowsOk k.esz k.es∧k.es.length * k.esz≤(c.fm b).tot ∧
 (∃ cur ty,c.w.heap[(c.fm b).blk]?=some (.cells cur ty (0,0))∧cur.size=(c.fm b).tot) ∧
 ∃ vs,VRss c k.es vs∧∀ i row,vs[i]?=some row→c.w.rangeAt (c.fm b).blk (i * k.esz) row
theorem VRss.flat {c:Cx}:∀ {es:List (List AV)} {vs:List (List Value)},VRss c es vs→VRs c es.flatten vs.flatten
 | [],_,h=>by simp only[VRss] at h;subst h;exact VRs.nil
 | r :: es,_,h=>by
  simp only[VRss] at h
  obtain ⟨x,xs,rfl,h1,h2⟩:=h
  simp only[List.flatten_cons]
  exact h1.append (VRss.flat h2)
theorem flat1 {α:Type}:∀ {vs:List (List α)},(∀ r ∈ vs,r.length=1)→∀ {j:Nat} {v:α},vs.flatten[j]?=some v→vs[j]?=some [v]
 | [],_,j,v,h=>by simp at h
 | r :: vs,hl,j,v,h=>by
  obtain ⟨u,rfl⟩:∃ u,r=[u]:=by
   have h1:=hl r (by simp)
   match r,h1 with
   | [u],_=>exact ⟨u,rfl⟩
  cases j with
  | zero=>simp at h;simp [h]
  | succ j =>
   simp only[List.flatten_cons,List.singleton_append,List.getElem?_cons_succ] at h ⊢
   exact flat1 (fun r hr=>hl r (by simp [hr])) h
theorem BRel.flat {c:Cx} {b:Bid} {k:Blk} (h:BRel c b k) (he:k.esz=1):∃ xs,c.w.rangeAt (c.fm b).blk 0 xs∧VRs c k.es.flatten xs∧k.es.flatten.all AV.cell=true:=by
 obtain ⟨_,_,hrows,_,_,vs,hv,hr⟩:=h
 have hvl:∀ r ∈ vs,r.length=1:=by
  intro r hr'
  obtain ⟨i,hi⟩:=List.getElem?_of_mem hr'
  have hie:i < k.es.length:=by rw [← hv.length];exact (List.getElem?_eq_some_iff.1 hi).1
  obtain ⟨x,hx,hvx⟩:=hv.get i _ (List.getElem?_eq_getElem hie)
  rw [hi] at hx
  cases hx
  rw [hvx.length,(hrows _ (List.getElem_mem hie)).1,he]
 refine ⟨vs.flatten,fun j v hj=>?_,hv.flat,?_⟩
 ·have h1:=flat1 hvl hj
  have:=hr j [v] h1 0 v rfl
  rw [he,Nat.mul_one,Nat.add_zero] at this
  rw [Nat.zero_add];exact this
 ·rw [List.all_eq_true]
  intro v hv'
  obtain ⟨r,hr',hv''⟩:=List.mem_flatten.1 hv'
  exact List.all_eq_true.1 (hrows r hr').2 v hv''
def MRel (c:Cx):List (Int × AV)→List MapEntry→Prop
 | [],es=>es=[]
 | p :: m,es=>∃ e es',es=e :: es'∧e.key=.int .i64 p.1∧VR c p.2 e.val∧MRel c m es'
theorem MRel.mono {c c':Cx} (hc:c.Le c'):∀ (m:List (Int × AV)) (es:List MapEntry),MRel c m es→MRel c' m es
 | [],_,h=>h
 | p :: m,es,h=>by
  obtain ⟨e,es',h1,h2,h3,h4⟩:=h
  exact ⟨e,es',h1,h2,VR.mono hc _ _ h3,MRel.mono hc m es' h4⟩
def LP (c:Cx) (l:Nat) (r:LRec):Prop:=match r.mp with
 | none=>c.w.heap[l]?=some (.loop r.rc)∧∀ t,VR c (r.tmp t) (r.rc.tmps.getD t undef)
 | some (.m m)=>∃ es clock,c.w.heap[l]?=some (.map es clock)∧MRel c m es.toList
 | some (.o cs ty)=>c.w.heap[l]?=some (.cells cs ty (0,0))
theorem LP.loop {c:Cx} {l:Nat} {r:LRec} (h:LP c l r) (hm:r.mp=none):c.w.heap[l]?=some (.loop r.rc)∧∀ t,VR c (r.tmp t) (r.rc.tmps.getD t undef):=by
 unfold LP at h;rw [hm] at h;exact h
theorem LP.of {c:Cx} {l:Nat} {r:LRec} (hm:r.mp=none) (h:c.w.heap[l]?=some (.loop r.rc)∧∀ t,VR c (r.tmp t) (r.rc.tmps.getD t undef)):LP c l r:=by
 unfold LP;rw [hm];exact h
theorem LP.map {c:Cx} {l:Nat} {r:LRec} {m:List (Int × AV)} (h:LP c l r) (hm:r.mp=some (.m m)):∃ es clock,c.w.heap[l]?=some (.map es clock)∧MRel c m es.toList:=by
 unfold LP at h;rw [hm] at h;exact h
theorem LP.ofMap {c:Cx} {l:Nat} {r:LRec} {m:List (Int × AV)} (hm:r.mp=some (.m m)) (h:∃ es clock,c.w.heap[l]?=some (.map es clock)∧MRel c m es.toList):LP c l r:=by
 unfold LP;rw [hm];exact h
theorem LP.cells {c:Cx} {l:Nat} {r:LRec} {cs:Array Value} {ty:TypeId} (h:LP c l r) (hm:r.mp=some (.o cs ty)):c.w.heap[l]?=some (.cells cs ty (0,0)):=by
 unfold LP at h;rw [hm] at h;exact h
theorem LP.ofCells {c:Cx} {l:Nat} {r:LRec} {cs:Array Value} {ty:TypeId} (hm:r.mp=some (.o cs ty)) (h:c.w.heap[l]?=some (.cells cs ty (0,0))):LP c l r:=by
 unfold LP;rw [hm];exact h
theorem LP.is {c:Cx} {l:Nat} {r:LRec} (h:LP c l r):(∃ x,c.w.heap[l]?=some (.loop x)) ∨ (∃ es clock,c.w.heap[l]?=some (.map es clock)) ∨ ∃ cs ty,c.w.heap[l]?=some (.cells cs ty (0,0)):=by
 cases hm:r.mp with
 | none=>exact .inl ⟨_,(h.loop hm).1⟩
 | some m =>
  cases m with
  | m m=>obtain ⟨es,k,h1,_⟩:=h.map hm;exact .inr (.inl ⟨es,k,h1⟩)
  | o cs ty=>exact .inr (.inr ⟨cs,ty,h.cells hm⟩)
theorem LP.obj {c:Cx} {l:Nat} {r:LRec} (h:LP c l r):∃ o,c.w.heap[l]?=some o:=by
 rcases h.is with ⟨x,h⟩|⟨es,k,h⟩|⟨cs,ty,h⟩
 ·exact ⟨_,h⟩
 ·exact ⟨_,h⟩
 ·exact ⟨_,h⟩
theorem LP.notDeferred {c:Cx} {l:Nat} {r:LRec} (h:LP c l r) {d:Option (List Deferred)}:c.w.heap[l]? ≠ some (.deferred d):=fun e=>by
 rcases h.is with ⟨x,h⟩|⟨es,k,h⟩|⟨cs,ty,h⟩ <;> (rw [e] at h;cases h)
theorem LP.mono {c c':Cx} {l:Nat} {r:LRec} (h:LP c l r) (hc:c.Le c') (hb:c'.w.heap[l]?=c.w.heap[l]?):LP c' l r:=by
 cases hm:r.mp with
 | none=>obtain ⟨h1,h2⟩:=h.loop hm;exact LP.of hm ⟨hb.trans h1,fun t=>VR.mono hc _ _ (h2 t)⟩
 | some m =>
  cases m with
  | m m=>obtain ⟨es,k,h1,h2⟩:=h.map hm;exact LP.ofMap hm ⟨es,k,hb.trans h1,MRel.mono hc _ _ h2⟩
  | o cs ty=>exact LP.ofCells hm (hb.trans (h.cells hm))
def GL (c:Cx) (g:Nat→Option (List AV)):Prop:=∀ i cs,g i=some cs→c.im i∧cs.all AV.cell=true∧∃ xs,c.w.rangeAt i 0 xs∧VRs c cs xs∧∃ ty fz,c.w.heap[i]?=some (.cells xs.toArray ty fz)
theorem GL.mono {c c':Cx} {g:Nat→Option (List AV)} (h:GL c g) (hc:c.Le c'):GL c' g:=fun i cs hi =>
 let ⟨h1,h2,xs,h3,h4,ty,fz,h5⟩:=h i cs hi
 ⟨hc.im i h1,h2,xs,rangeAt_of_block (hc.cells i h1) h3,VRs.mono hc cs xs h4,ty,fz,(hc.cells i h1).trans h5⟩
theorem GL.sub {c:Cx} {g g':Nat→Option (List AV)} (h:GL c g) (hg:∀ i cs,g' i=some cs→g i=some cs):GL c g':=fun i cs hi=>h i cs (hg i cs hi)
structure HRel (c:Cx) (h:AH):Prop where
 clk:∀ b,c.dom b→b.1 < h.clk
 blk:∀ b k,h.at_ b=some k→BRel c b k
 inj:∀ b b' k k',h.at_ b=some k→h.at_ b'=some k'→(c.fm b).blk=(c.fm b').blk→b=b'
 im:∀ b k,h.at_ b=some k→¬ c.im (c.fm b).blk
 imlt:∀ b,c.im b→b < c.w.heap.size
 lp:∀ l r,h.lp l=some r→LP c l r
 lpim:∀ l r,h.lp l=some r→¬ c.im l
 lpat:∀ b k l r,h.at_ b=some k→h.lp l=some r→(c.fm b).blk ≠ l
 gl:GL c h.gl
def RW (c:Cx) (h:AH) (b:Nat):Prop:=(∃ a k,h.at_ a=some k∧(c.fm a).blk=b) ∨ (∃ r,h.lp b=some r)
theorem RW.lt {c:Cx} {h:AH} (H:HRel c h) {b:Nat} (hb:RW c h b):b < c.w.heap.size:=by
 rcases hb with ⟨a,k,ha,rfl⟩|⟨r,hr⟩
 ·obtain ⟨_,_,_,_,⟨cur,ty,hc,_⟩,_⟩:=H.blk a k ha
  exact (Array.getElem?_eq_some_iff.1 hc).1
 ·obtain ⟨o,ho⟩:=(H.lp b r hr).obj
  exact (Array.getElem?_eq_some_iff.1 ho).1
theorem HRel.tick {c:Cx} {h:AH} (H:HRel c h) {n:Nat} (hn:h.clk≤n):HRel c (h.tick n) :=
 ⟨fun b hb=>Nat.lt_of_lt_of_le (H.clk b hb) hn,H.blk,H.inj,H.im,H.imlt,H.lp,H.lpim,H.lpat,H.gl⟩
structure Evo (c:Cx) (h:AH) (c':Cx) (h':AH):Prop where
 le:c.Le c'
 clk:h.clk≤h'.clk
 size:c.w.heap.size≤c'.w.heap.size
 keep:∀ b,b < c.w.heap.size→¬ RW c h b→c'.w.heap[b]?=c.w.heap[b]?
 imnew:∀ b,c'.im b→c.im b ∨ c.w.heap.size≤b ∨ RW c h b
 rwnew:∀ b,RW c' h' b→c.w.heap.size≤b ∨ RW c h b
 stay:∀ b k,h'.at_ b=some k→c.dom b→∃ k0,h.at_ b=some k0
 os:c'.w.os=c.w.os
 out:c'.w.output=c.w.output
 tape:c'.w.tape=c.w.tape
 gl:h'.gl=h.gl
theorem Evo.refl (c:Cx) (h:AH):Evo c h c h :=
 ⟨Cx.Le.refl c,Nat.le_refl _,Nat.le_refl _,fun _ _ _=>rfl,fun _ h=>.inl h,fun _ h=>.inr h,fun _ k h _=>⟨k,h⟩,rfl,rfl,rfl,rfl⟩
theorem Evo.trans {c c1 c2:Cx} {h h1 h2:AH} (e:Evo c h c1 h1) (k:Evo c1 h1 c2 h2):Evo c h c2 h2 where
 le:=e.le.trans k.le
 clk:=Nat.le_trans e.clk k.clk
 size:=Nat.le_trans e.size k.size
 keep:=fun b hb hn=>(k.keep b (Nat.lt_of_lt_of_le hb e.size) (fun hr=>(e.rwnew b hr).elim (fun h=>absurd hb (Nat.not_lt.2 h)) hn)).trans (e.keep b hb hn)
 imnew:=fun b hb=>(k.imnew b hb).elim (fun h=>e.imnew b h) (fun h=>h.elim (fun h=>.inr (.inl (Nat.le_trans e.size h))) (fun h=>.inr (e.rwnew b h)))
 rwnew:=fun b hb=>(k.rwnew b hb).elim (fun h=>.inl (Nat.le_trans e.size h)) (fun h=>e.rwnew b h)
 stay:=fun b x hx hd=>let ⟨k1,h1⟩:=k.stay b x hx (e.le.dom b hd);e.stay b k1 h1 hd
 os:=k.os.trans e.os
 out:=k.out.trans e.out
 tape:=k.tape.trans e.tape
 gl:=k.gl.trans e.gl
theorem BRel.mono {c c':Cx} (hc:c.Le c') {b:Bid} {k:Blk} (hk:BRel c b k) (hb:c'.w.heap[(c.fm b).blk]?=c.w.heap[(c.fm b).blk]?):BRel c' b k:=by
 obtain ⟨h1,h2,h3,h4,⟨cur,ty,h5,h6⟩,vs,h7,h8⟩:=hk
 have hf:=hc.fm b h1
 refine ⟨hc.dom b h1,by rw [hf];exact h2,h3,by rw [hf];exact h4,⟨cur,ty,by rw [hf,hb];exact h5,by rw [hf];exact h6⟩,vs,VRss.mono hc _ _ h7,fun i row hr=>?_⟩
 rw [hf]
 exact rangeAt_of_block hb (h8 i row hr)
theorem HRel.world {c:Cx} {h:AH} (H:HRel c h) {w':World} (hs:c.w.heap.size≤w'.heap.size)
  (hk:∀ b,(RW c h b ∨ c.im b)→w'.heap[b]?=c.w.heap[b]?):HRel { c with w:=w' } h:=by
 have hle:c.Le { c with w:=w' }:=⟨fun _ h=>h,fun _ _=>rfl,fun _ h=>h,fun b hb=>hk b (.inr hb)⟩
 exact ⟨H.clk,fun b k hb=>(H.blk b k hb).mono hle (hk _ (.inl (.inl ⟨b,k,hb,rfl⟩))),H.inj,H.im,fun b hb=>Nat.lt_of_lt_of_le (H.imlt b hb) hs,
  fun l r hr=>(H.lp l r hr).mono hle (hk l (.inl (.inr ⟨r,hr⟩))),H.lpim,H.lpat,H.gl.mono hle⟩
theorem Evo.world {c:Cx} {h:AH} (H:HRel c h) {w':World} (hs:c.w.heap.size≤w'.heap.size) (hk:∀ b,b < c.w.heap.size→w'.heap[b]?=c.w.heap[b]?)
  (ho:w'.os=c.w.os) (hou:w'.output=c.w.output) (ht:w'.tape=c.w.tape):Evo c h { c with w:=w' } h :=
 ⟨⟨fun _ h=>h,fun _ _=>rfl,fun _ h=>h,fun b hb=>hk b (H.imlt b hb)⟩,Nat.le_refl _,hs,fun b hb _=>hk b hb,fun _ h=>.inl h,fun _ h=>.inr h,fun _ k h _=>⟨k,h⟩,ho,hou,ht,rfl⟩
theorem heap_alloc_old' (w:World) (o:Obj) (b:Nat) (hb:b < w.heap.size):(w.alloc o).heap[b]?=w.heap[b]?:=RowKit.Below.heap_alloc w o b hb
def Cx.alloc (c:Cx) (id:Bid) (cur:Array Value) (ty:TypeId) (esz:Nat):Cx :=
 { w:=c.w.alloc (.cells cur ty),im:=c.im,fm:=upd c.fm id ⟨c.w.heap.size,esz,cur.size⟩,dom:=fun b=>b=id ∨ c.dom b }
theorem Cx.alloc_le {c:Cx} {h:AH} (H:HRel c h) {id:Bid} (hid:¬ c.dom id) (cur:Array Value) (ty:TypeId) (esz:Nat):c.Le (c.alloc id cur ty esz) :=
 ⟨fun _ h=>.inr h,fun b hb=>upd_ne _ _ (fun e=>hid (e ▸ hb)),fun _ h=>h,fun b hb=>heap_alloc_old' c.w _ b (H.imlt b hb)⟩
theorem alloc_blk (c:Cx) (id:Bid) (cur:Array Value) (ty:TypeId) (esz:Nat):(c.alloc id cur ty esz).fm id=⟨c.w.heap.size,esz,cur.size⟩:=upd_same _ _ _
theorem HRel.alloc {c:Cx} {h:AH} (H:HRel c h) {id:Bid} (hid:¬ c.dom id) (hlt:id.1 < h.clk) (cur:Array Value) (ty:TypeId) (k:Blk) (hk:rowsOk k.esz k.es) (vs:List (List Value))
  (hv:VRss c k.es vs) (hl:k.es.length * k.esz≤cur.size) (hc:∀ (i:Nat) row,vs[i]?=some row→∀ (j:Nat) v,row[j]?=some v→cur[i * k.esz+j]?=some v) :
  HRel (c.alloc id cur ty k.esz) (h.put id (some k))∧Evo c h (c.alloc id cur ty k.esz) (h.put id (some k)):=by
 have hle:=Cx.alloc_le H hid cur ty k.esz
 have hnew:(c.alloc id cur ty k.esz).w.heap[c.w.heap.size]?=some (.cells cur ty (0,0)):=heap_alloc_new c.w _
 have hold:∀ b,b < c.w.heap.size→(c.alloc id cur ty k.esz).w.heap[b]?=c.w.heap[b]?:=fun b hb=>heap_alloc_old' c.w _ b hb
 have at_:∀ b k',(h.put id (some k)).at_ b=some k'→(b=id∧k'=k) ∨ (b ≠ id∧h.at_ b=some k'):=by
  intro b k' hb
  simp only[AH.put,upd_apply] at hb
  split at hb
  ·rename_i e;exact .inl ⟨e,by cases hb;rfl⟩
  ·rename_i e;exact .inr ⟨e,hb⟩
 have hfm:∀ b,b ≠ id→(c.alloc id cur ty k.esz).fm b=c.fm b:=fun b hb=>upd_ne _ _ hb
 have hlt':∀ b k',h.at_ b=some k'→(c.fm b).blk < c.w.heap.size:=fun b k' hb=>RW.lt H (.inl ⟨b,k',hb,rfl⟩)
 refine ⟨⟨?_,?_,?_,?_,?_,?_,?_,?_,H.gl.mono hle⟩,⟨hle,Nat.le_refl _,by simp [Cx.alloc],fun b hb _=>hold b hb,fun b hb=>.inl hb,?_,?_,rfl,rfl,rfl,rfl⟩⟩
 ·rintro b (rfl|hb)
  ·exact hlt
  ·exact H.clk b hb
 ·intro b k' hb
  rcases at_ b k' hb with ⟨rfl,rfl⟩|⟨hne,hb⟩
  ·refine ⟨.inl rfl,by rw [alloc_blk],hk,by rw [alloc_blk];exact hl,⟨cur,ty,by rw [alloc_blk];exact hnew,by rw [alloc_blk]⟩,vs,VRss.mono hle _ _ hv,?_⟩
   intro i row hr j v hj
   rw [alloc_blk]
   rw [cell_of_row _ _ _ cur ty (0,0) hnew]
   exact hc i row hr j v hj
  ·exact (H.blk b k' hb).mono hle (hold _ (hlt' b k' hb))
 ·intro b b' k1 k2 h1 h2 he
  rcases at_ b k1 h1 with ⟨e1,_⟩|⟨hne,g1⟩ <;> rcases at_ b' k2 h2 with ⟨e2,_⟩|⟨hne',g2⟩
  ·rw [e1,e2]
  ·rw [e1,alloc_blk,hfm b' hne'] at he
   exact absurd he.symm (Nat.ne_of_lt (hlt' b' k2 g2))
  ·rw [e2,alloc_blk,hfm b hne] at he
   exact absurd he (Nat.ne_of_lt (hlt' b k1 g1))
  ·rw [hfm b hne,hfm b' hne'] at he
   exact H.inj b b' k1 k2 g1 g2 he
 ·intro b k' hb him
  rcases at_ b k' hb with ⟨rfl,rfl⟩|⟨hne,hb⟩
  ·rw [alloc_blk] at him
   exact absurd (H.imlt _ him) (Nat.lt_irrefl _)
  ·rw [hfm b hne] at him
   exact H.im b k' hb him
 ·intro b hb
  exact Nat.lt_of_lt_of_le (H.imlt b hb) (by simp [Cx.alloc])
 ·intro l r hr
  exact (H.lp l r hr).mono hle (hold l (RW.lt H (.inr ⟨r,hr⟩)))
 ·exact H.lpim
 ·intro a k' l r ha hr
  rcases at_ a k' ha with ⟨rfl,rfl⟩|⟨hne,ha⟩
  ·rw [alloc_blk];exact Nat.ne_of_gt (RW.lt H (.inr ⟨r,hr⟩))
  ·rw [hfm a hne];exact H.lpat a k' l r ha hr
 ·rintro b (⟨a,k',ha,rfl⟩|⟨r,hr⟩)
  ·rcases at_ a k' ha with ⟨rfl,rfl⟩|⟨hne,ha⟩
   ·rw [alloc_blk];exact .inl (Nat.le_refl _)
   ·rw [hfm a hne];exact .inr (.inl ⟨a,k',ha,rfl⟩)
  ·exact .inr (.inr ⟨r,hr⟩)
 ·intro b k' hb hd
  rcases at_ b k' hb with ⟨rfl,rfl⟩|⟨hne,hb⟩
  ·exact absurd hd hid
  ·exact ⟨k',hb⟩
theorem HRel.write {c:Cx} {h:AH} (H:HRel c h) {b:Bid} {k:Blk} (hb:h.at_ b=some k) {w':World} (cur:Array Value) (ty:TypeId)
  (hw:w'.heap[(c.fm b).blk]?=some (.cells cur ty (0,0))) (hsz:cur.size=(c.fm b).tot) (hold:∀ i,i ≠ (c.fm b).blk→w'.heap[i]?=c.w.heap[i]?) (hs:w'.heap.size=c.w.heap.size)
  (ho:w'.os=c.w.os) (hou:w'.output=c.w.output) (ht:w'.tape=c.w.tape)
  (k':Blk) (he:k'.esz=k.esz) (hk:rowsOk k'.esz k'.es) (hl:k'.es.length * k'.esz≤(c.fm b).tot) (vs:List (List Value)) (hv:VRss c k'.es vs)
  (hc:∀ (i:Nat) row,vs[i]?=some row→∀ (j:Nat) v,row[j]?=some v→cur[i * k'.esz+j]?=some v) :
  HRel { c with w:=w' } (h.put b (some k'))∧Evo c h { c with w:=w' } (h.put b (some k')):=by
 have hle:c.Le { c with w:=w' }:=⟨fun _ h=>h,fun _ _=>rfl,fun _ h=>h,fun i hi=>hold i (fun e=>H.im b k hb (e ▸ hi))⟩
 have at_:∀ a k2,(h.put b (some k')).at_ a=some k2→(a=b∧k2=k') ∨ (a ≠ b∧h.at_ a=some k2):=by
  intro a k2 ha
  simp only[AH.put,upd_apply] at ha
  split at ha
  ·rename_i e;exact .inl ⟨e,by cases ha;rfl⟩
  ·rename_i e;exact .inr ⟨e,ha⟩
 have hk0:=H.blk b k hb
 have rw_:∀ i,RW { c with w:=w' } (h.put b (some k')) i→RW c h i:=by
  rintro i (⟨a,k2,ha,rfl⟩|⟨r,hr⟩)
  ·rcases at_ a k2 ha with ⟨rfl,rfl⟩|⟨_,ha⟩
   ·exact .inl ⟨_,k,hb,rfl⟩
   ·exact .inl ⟨a,k2,ha,rfl⟩
  ·exact .inr ⟨r,hr⟩
 refine ⟨⟨H.clk,?_,?_,?_,fun i hi=>by rw [hs];exact H.imlt i hi,?_,H.lpim,fun a k2 l r ha hr=>(at_ a k2 ha).elim (fun e=>e.1 ▸ H.lpat b k l r hb hr) (fun e=>H.lpat a k2 l r e.2 hr),H.gl.mono hle⟩,
  ⟨hle,Nat.le_refl _,by rw [hs];exact Nat.le_refl _,fun i _ hn=>hold i (fun e=>hn (.inl ⟨b,k,hb,e.symm⟩)),fun _ h=>.inl h,fun i hi=>.inr (rw_ i hi),?_,ho,hou,ht,rfl⟩⟩
 ·intro a k2 ha
  rcases at_ a k2 ha with ⟨rfl,rfl⟩|⟨hne,ha⟩
  ·refine ⟨hk0.1,he.trans hk0.2.1,hk,hl,⟨cur,ty,hw,hsz⟩,vs,VRss.mono hle _ _ hv,?_⟩
   intro i row hr j v hj
   rw [cell_of_row _ _ _ cur ty (0,0) hw]
   exact hc i row hr j v hj
  ·exact (H.blk a k2 ha).mono hle (hold _ (fun e=>hne (H.inj a b k2 k ha hb e)))
 ·intro a a' k1 k2 h1 h2 e
  have g1:∃ k3,h.at_ a=some k3:=(at_ a k1 h1).elim (fun x=>⟨k,x.1 ▸ hb⟩) (fun x=>⟨k1,x.2⟩)
  have g2:∃ k3,h.at_ a'=some k3:=(at_ a' k2 h2).elim (fun x=>⟨k,x.1 ▸ hb⟩) (fun x=>⟨k2,x.2⟩)
  obtain ⟨k3,g1⟩:=g1
  obtain ⟨k4,g2⟩:=g2
  exact H.inj a a' k3 k4 g1 g2 e
 ·intro a k2 ha
  rcases at_ a k2 ha with ⟨rfl,rfl⟩|⟨_,ha⟩
  ·exact H.im _ k hb
  ·exact H.im a k2 ha
 ·intro l r hr
  exact (H.lp l r hr).mono hle (hold l (fun e=>H.lpat b k l r hb hr e.symm))
 ·intro a k2 ha _
  rcases at_ a k2 ha with ⟨rfl,rfl⟩|⟨_,ha⟩
  ·exact ⟨k,hb⟩
  ·exact ⟨k2,ha⟩
theorem HRel.drop {c:Cx} {h:AH} (H:HRel c h) (b:Bid):HRel c (h.put b none)∧Evo c h c (h.put b none):=by
 have at_:∀ a k2,(h.put b none).at_ a=some k2→h.at_ a=some k2:=by
  intro a k2 ha
  simp only[AH.put,upd_apply] at ha
  split at ha
  ·cases ha
  ·exact ha
 exact ⟨⟨H.clk,fun a k ha=>H.blk a k (at_ a k ha),fun a a' k1 k2 h1 h2=>H.inj a a' k1 k2 (at_ _ _ h1) (at_ _ _ h2),fun a k ha=>H.im a k (at_ a k ha),H.imlt,H.lp,H.lpim,fun a k l r ha hr=>H.lpat a k l r (at_ a k ha) hr,H.gl⟩,
  ⟨Cx.Le.refl c,Nat.le_refl _,Nat.le_refl _,fun _ _ _=>rfl,fun _ h=>.inl h,fun i hi=>.inr (hi.imp (fun ⟨a,k,ha,e⟩=>⟨a,k,at_ a k ha,e⟩) id),fun a k ha _=>⟨k,at_ a k ha⟩,rfl,rfl,rfl,rfl⟩⟩
def Cx.freeze (c:Cx) (b:Bid):Cx:={ c with im:=fun i=>c.im i ∨ i=(c.fm b).blk }
theorem Cx.freeze_le (c:Cx) (b:Bid):c.Le (c.freeze b):=⟨fun _ h=>h,fun _ _=>rfl,fun _ h=>.inl h,fun _ _=>rfl⟩
theorem HRel.freeze {c:Cx} {h:AH} (H:HRel c h) {b:Bid} {k:Blk} (hb:h.at_ b=some k):HRel (c.freeze b) (h.put b none)∧Evo c h (c.freeze b) (h.put b none):=by
 have hd:=HRel.drop H b
 have at_:∀ a k2,(h.put b none).at_ a=some k2→a ≠ b∧h.at_ a=some k2:=by
  intro a k2 ha
  simp only[AH.put,upd_apply] at ha
  split at ha
  ·cases ha
  ·rename_i e;exact ⟨e,ha⟩
 have hrw:RW c h (c.fm b).blk:=.inl ⟨b,k,hb,rfl⟩
 refine ⟨⟨H.clk,fun a k2 ha=>(hd.1.blk a k2 ha).mono (Cx.freeze_le c b) rfl,hd.1.inj,?_,?_,fun l r hr=>(H.lp l r hr).mono (Cx.freeze_le c b) rfl,?_,fun a k2 l r ha hr=>H.lpat a k2 l r (at_ a k2 ha).2 hr,H.gl.mono (Cx.freeze_le c b)⟩,
  ⟨Cx.freeze_le c b,Nat.le_refl _,Nat.le_refl _,fun _ _ _=>rfl,?_,hd.2.rwnew,hd.2.stay,rfl,rfl,rfl,rfl⟩⟩
 ·rintro a k2 ha (hi|hi)
  ·exact H.im a k2 (at_ a k2 ha).2 hi
  ·exact (at_ a k2 ha).1 (H.inj a b k2 k (at_ a k2 ha).2 hb hi)
 ·rintro i (hi|rfl)
  ·exact H.imlt i hi
  ·exact RW.lt H hrw
 ·rintro l r hr (hi|rfl)
  ·exact H.lpim l r hr hi
  ·exact H.lpat b k _ r hb hr rfl
 ·rintro i (hi|rfl)
  ·exact .inl hi
  ·exact .inr (.inr hrw)
abbrev FW (r:Option Nat):Fence:={ fn:=fun _=>True,depth:=none,alive:=false,round:=r }
def Ends (c:Cx) (h:AH) (Q:AV→AH→Prop):Ending→World→Prop:=fun e w' =>
 ∃ v x c' h',e=.returned x∧c'.w=w'∧VR c' v x∧HRel c' h'∧Evo c h c' h'∧(∀ b,c'.dom b→c.dom b ∨ h.clk≤b.1)∧Q v h'
def Enters (P:Program) (f:FuncId):Prop:=∀ args w,(callFunc f args).run P w=.ok (.enter f args) w
def ACalls (P:Program) (f:FuncId) (args:List AV) (h:AH) (Q:AV→AH→Prop):Prop :=
 Enters P f∧∀ c xs,HRel c h→VRs c args xs→CallsIn (FW none) 0 P f xs.toArray c.w (Ends c h Q)
theorem Ends.mono {c:Cx} {h:AH} {Q Q':AV→AH→Prop} (hq:∀ v h',Q v h'→Q' v h') (e:Ending) (w':World):Ends c h Q e w'→Ends c h Q' e w' :=
 fun ⟨v,x,c',h',a,b,d,e,g,k,q⟩=>⟨v,x,c',h',a,b,d,e,g,k,hq _ _ q⟩
theorem ACalls.mono {P:Program} {f:FuncId} {args:List AV} {h:AH} {Q Q':AV→AH→Prop} (H:ACalls P f args h Q) (hq:∀ v h',Q v h'→Q' v h'):ACalls P f args h Q' :=
 ⟨H.1,fun c xs hh hv=>(H.2 c xs hh hv).mono (Ends.mono hq)⟩
theorem callsIn_round {r:Option Nat} {n:Nat} {P:Program} {f:FuncId} {args:Array Value} {w:World} {R:Ending→World→Prop}
  (h:CallsIn (FW none) n P f args w R):CallsIn (FW r) n P f args w R:=h
theorem HRel.lpNew {c:Cx} {h:AH} (H:HRel c h) (o:Obj) (r:LRec) (hr:LP { c with w:=c.w.alloc o } c.w.heap.size r) :
  HRel { c with w:=c.w.alloc o } (h.lpSet c.w.heap.size (some r))∧Evo c h { c with w:=c.w.alloc o } (h.lpSet c.w.heap.size (some r)):=by
 have hold:∀ b,b < c.w.heap.size→(c.w.alloc o).heap[b]?=c.w.heap[b]?:=fun b hb=>heap_alloc_old' c.w _ b hb
 have hle:c.Le { c with w:=c.w.alloc o }:=⟨fun _ h=>h,fun _ _=>rfl,fun _ h=>h,fun b hb=>hold b (H.imlt b hb)⟩
 have at_:∀ i x,(h.lpSet c.w.heap.size (some r)).lp i=some x→(i=c.w.heap.size∧x=r) ∨ (i ≠ c.w.heap.size∧h.lp i=some x):=by
  intro i x hx
  simp only[AH.lpSet,upd_apply] at hx
  split at hx
  ·exact .inl ⟨by assumption,by cases hx;rfl⟩
  ·exact .inr ⟨by assumption,hx⟩
 refine ⟨⟨H.clk,fun a k ha=>(H.blk a k ha).mono hle (hold _ (RW.lt H (.inl ⟨a,k,ha,rfl⟩))),H.inj,H.im,fun i hi=>Nat.lt_of_lt_of_le (H.imlt i hi) (by simp),?_,?_,fun a k i x ha hx=>(at_ i x hx).elim (fun e=>by rw [e.1];exact Nat.ne_of_lt (RW.lt H (.inl ⟨a,k,ha,rfl⟩))) (fun e=>H.lpat a k i x ha e.2),H.gl.mono hle⟩,⟨hle,Nat.le_refl _,by simp,fun i hi _=>hold i hi,fun _ h=>.inl h,?_,fun _ k h _=>⟨k,h⟩,rfl,rfl,rfl,rfl⟩⟩
 ·intro i x hx
  rcases at_ i x hx with ⟨rfl,rfl⟩|⟨hi,hx⟩
  ·exact hr
  ·exact (H.lp i x hx).mono hle (hold i (RW.lt H (.inr ⟨x,hx⟩)))
 ·intro i x hx
  rcases at_ i x hx with ⟨rfl,_⟩|⟨_,hx⟩
  ·exact fun hi=>absurd (H.imlt _ hi) (Nat.lt_irrefl _)
  ·exact H.lpim i x hx
 ·rintro i (⟨a,k,ha,rfl⟩|⟨x,hx⟩)
  ·exact .inr (.inl ⟨a,k,ha,rfl⟩)
  ·rcases at_ i x hx with ⟨rfl,_⟩|⟨_,hx⟩
   ·exact .inl (Nat.le_refl _)
   ·exact .inr (.inr ⟨x,hx⟩)
theorem HRel.lpPut {c:Cx} {h:AH} (H:HRel c h) {l:Nat} {r0:LRec} (hl:h.lp l=some r0) {w':World} (hold:∀ i,i ≠ l→w'.heap[i]?=c.w.heap[i]?) (hs:w'.heap.size=c.w.heap.size)
  (ho:w'.os=c.w.os) (hou:w'.output=c.w.output) (ht:w'.tape=c.w.tape) (r:LRec) (hr:c.Le { c with w:=w' }→LP { c with w:=w' } l r) :
  HRel { c with w:=w' } (h.lpSet l (some r))∧Evo c h { c with w:=w' } (h.lpSet l (some r)):=by
 have hli:¬ c.im l:=H.lpim l r0 hl
 have hle:c.Le { c with w:=w' }:=⟨fun _ h=>h,fun _ _=>rfl,fun _ h=>h,fun i hi=>hold i (fun e=>hli (e ▸ hi))⟩
 have hne:∀ a k,h.at_ a=some k→(c.fm a).blk ≠ l:=fun a k ha=>H.lpat a k l r0 ha hl
 have at_:∀ i x,(h.lpSet l (some r)).lp i=some x→(i=l∧x=r) ∨ (i ≠ l∧h.lp i=some x):=by
  intro i x hx
  simp only[AH.lpSet,upd_apply] at hx
  split at hx
  ·exact .inl ⟨by assumption,by cases hx;rfl⟩
  ·exact .inr ⟨by assumption,hx⟩
 refine ⟨⟨H.clk,fun a k ha=>(H.blk a k ha).mono hle (hold _ (hne a k ha)),H.inj,H.im,fun i hi=>by rw [hs];exact H.imlt i hi,?_,?_,fun a k i x ha hx=>(at_ i x hx).elim (fun e=>by rw [e.1];exact hne a k ha) (fun e=>H.lpat a k i x ha e.2),H.gl.mono hle⟩,⟨hle,Nat.le_refl _,by rw [hs];exact Nat.le_refl _,fun i _ hn=>hold i (fun e=>hn (.inr ⟨r0,e ▸ hl⟩)),fun _ h=>.inl h,?_,fun _ k h _=>⟨k,h⟩,ho,hou,ht,rfl⟩⟩
 ·intro i x hx
  rcases at_ i x hx with ⟨rfl,rfl⟩|⟨hi,hx⟩
  ·exact hr hle
  ·exact (H.lp i x hx).mono hle (hold i hi)
 ·intro i x hx
  rcases at_ i x hx with ⟨rfl,_⟩|⟨_,hx⟩
  ·exact hli
  ·exact H.lpim i x hx
 ·rintro i (⟨a,k,ha,rfl⟩|⟨x,hx⟩)
  ·exact .inr (.inl ⟨a,k,ha,rfl⟩)
  ·rcases at_ i x hx with ⟨rfl,_⟩|⟨_,hx⟩
   ·exact .inr (.inr ⟨r0,hl⟩)
   ·exact .inr (.inr ⟨x,hx⟩)
end Go.Av
namespace Go.Av
inductive TK where
 | int (k:IntKind)
 | bool|str
 | struct (fs:List (Nat × Nat × Bool))
 | array (n e:Nat)
 | slice (e:Nat)
 | ptr
 | iface
 | plain
 | unknown
structure TI where
 k:TK
 size:Nat
 bytes:Nat
 zero:List AV
 eqn:Bool:=false
 eqb:Bool:=false
def TK.agg:TK→Bool
 | .struct _|.array _ _=>true
 | _=>false
def aggB (P:Program) (t:TypeId):Bool:=match P.underlying t with
 | some d=>d.isRow
 | none=>false
def ZR (zs:List AV) (xs:List Value):Prop:=∀ c,VRs c zs xs
def ivs (xs:List (IntKind × Int)):List Value:=xs.map fun (p:IntKind × Int)=>Value.int p.1 p.2
def EqFact (P:Program) (t:TypeId) (n:Nat):Prop :=
 ∀ (xs ys:List (IntKind × Int)),xs.length=n→xs.map (·.1)=ys.map (·.1)→∀ (w:World) (x y:Operand),
  (do eqGuard .eql t x y (.agg (ivs xs).toArray) (.agg (ivs ys).toArray);Go.binOp .eql t (.agg (ivs xs).toArray) (.agg (ivs ys).toArray)).run P w=.ok (.bool (decide (xs=ys))) w ∧
  (do eqGuard .neq t x y (.agg (ivs xs).toArray) (.agg (ivs ys).toArray);Go.binOp .neq t (.agg (ivs xs).toArray) (.agg (ivs ys).toArray)).run P w=.ok (.bool (!decide (xs=ys))) w
def bvs (xs:List Bool):List Value:=xs.map Value.bool
def EqFactB (P:Program) (t:TypeId) (n:Nat):Prop :=
 ∀ (xs ys:List Bool),xs.length=n→ys.length=n→∀ (w:World) (x y:Operand),
  (do eqGuard .eql t x y (.agg (bvs xs).toArray) (.agg (bvs ys).toArray);Go.binOp .eql t (.agg (bvs xs).toArray) (.agg (bvs ys).toArray)).run P w=.ok (.bool (decide (xs=ys))) w ∧
  (do eqGuard .neq t x y (.agg (bvs xs).toArray) (.agg (bvs ys).toArray);Go.binOp .neq t (.agg (bvs xs).toArray) (.agg (bvs ys).toArray)).run P w=.ok (.bool (!decide (xs=ys))) w
structure Good (P:Program) (t:TypeId) (ti:TI):Prop where
 info:∃ i z,P.info? t=some i∧i.size=ti.size∧i.bytes=ti.bytes∧i.zero=some z∧ZR ti.zero z.cells.toList∧ti.zero.length=ti.size∧ti.zero.all AV.cell=true
 kind:match ti.k with
  | .int k=>P.underlying t=some (.int k)
  | .bool=>P.underlying t=some .bool
  | .str=>P.underlying t=some .string
  | .struct fs=>∃ fields:Array Field,P.underlying t=some (.struct fields)∧fields.toList.map (fun f=>(f.offset,P.cellsOf f.type,aggB P f.type))=fs∧∀ f ∈ fields.toList,(P.info? f.type).isSome=true∧(P.underlying f.type).isSome=true
  | .array n e=>P.underlying t=some (.array n e)∧(P.info? e).isSome=true
  | .slice e=>P.underlying t=some (.slice e)∧(P.info? e).isSome=true
  | .ptr=>∃ e,P.underlying t=some (.pointer e)
  | .iface=>∃ ms,P.underlying t=some (.interface ms)
  | .plain=>∃ d,P.underlying t=some d∧d.isRow=false
  | .unknown=>True
 eqn:ti.eqn=true→EqFact P t ti.size
 eqb:ti.eqb=true→EqFactB P t ti.size
def TI.knows (ti:TI):Bool:=match ti.k with
 | .unknown=>false
 | _=>true
def TK.elem:TK→Option Nat
 | .array _ e|.slice e=>some e
 | _=>none
structure Tab (P:Program) (tt:Nat→TI):Prop where
 all:∀ t,(tt t).knows=true→Good P t (tt t)
 elem:∀ t e,(tt t).k.elem=some e→(tt e).knows=true
theorem Tab.good {P:Program} {tt:Nat→TI} (T:Tab P tt) {t:Nat} {k:TK} (h:(tt t).k=k) (hk:k ≠ .unknown):Good P t (tt t) :=
 T.all t (by unfold TI.knows;rw [h];cases k <;> first|rfl|exact absurd rfl hk)
section runs
variable {P:Program} {w:World}
theorem run_sizeOf' {t:TypeId} {i:TypeInfo} (h:P.info? t=some i):(sizeOf t).run P w=.ok i.size w:=by
 simp [sizeOf,typeInfo,h]
theorem run_zeroValue' {t:TypeId} {i:TypeInfo} {z:Value} (h:P.info? t=some i) (hz:i.zero=some z):(zeroValue t).run P w=.ok z w:=by
 simp [zeroValue,typeInfo,h,hz]
theorem run_isAgg' {t:TypeId} {d:TypeDesc} (h:P.underlying t=some d):(isAgg t).run P w=.ok d.isRow w:=by
 unfold isAgg
 rw [Sem.run_bind,run_underlying h w]
 cases d <;> simp
end runs
def wr (k:IntKind) (n:Int):Int:=k.wrap n
theorem wr_i64 {n:Int} (h:-9223372036854775808≤n∧n≤9223372036854775807):wr .i64 n=n:=by
 simp only[wr,IntKind.wrap,IntKind.bits,IntKind.signed]
 simp only[Bool.true_and,decide_eq_true_eq,ge_iff_le]
 split <;> omega
def bitop (op:BinOp) (k:IntKind) (x y:Int):Int :=
 let a:=BitVec.ofInt k.bits x
 let b:=BitVec.ofInt k.bits y
 match op with
 | .and=>wr k (a &&& b).toNat
 | .or=>wr k (a ||| b).toNat
 | .xor=>wr k (a ^^^ b).toNat
 | _=>wr k (a &&& ~~~b).toNat
def shl (k:IntKind) (a b:Int):Int:=wr k (a * 2 ^ (min b.toNat k.bits))
def shr (k:IntKind) (a b:Int):Int:=a.fdiv (2 ^ (min b.toNat k.bits))
def ints:List AV→Option (List (IntKind × Int))
 | []=>some []
 | .int k n :: vs=>(ints vs).map ((k,n) :: ·)
 | _=>none
def bools:List AV→Option (List Bool)
 | []=>some []
 | .bool b :: vs=>(bools vs).map (b :: ·)
 | _=>none
def abinB (ti:TI) (op:BinOp) (xs ys:List AV):Option AV:=match ti.k,ti.eqb,op,bools xs,bools ys with
 | .struct _,true,.eql,some p,some q=>if p.length=ti.size∧q.length=ti.size then some (.bool (decide (p=q))) else none
 | .struct _,true,.neq,some p,some q=>if p.length=ti.size∧q.length=ti.size then some (.bool (!decide (p=q))) else none
 | _,_,_,_,_=>none
def ibin (op:BinOp) (k:IntKind) (a b:Int):Option AV :=
 match op with
 | .add=>some (.int k (wr k (a+b)))
 | .sub=>some (.int k (wr k (a - b)))
 | .mul=>some (.int k (wr k (a * b)))
 | .quo=>if b=0 then none else some (.int k (wr k (a.tdiv b)))
 | .rem=>if b=0 then none else some (.int k (a.tmod b))
 | .and=>some (.int k (bitop .and k a b))
 | .or=>some (.int k (bitop .or k a b))
 | .xor=>some (.int k (bitop .xor k a b))
 | .andNot=>some (.int k (bitop .andNot k a b))
 | .eql=>some (.bool (decide (a=b)))
 | .neq=>some (.bool (decide (¬ a=b)))
 | .lss=>some (.bool (decide (a < b)))
 | .leq=>some (.bool (decide (a≤b)))
 | .gtr=>some (.bool (decide (b < a)))
 | .geq=>some (.bool (decide (b≤a)))
 | _=>none
def abin (ti:TI) (op:BinOp) (cn:Bool):AV→AV→Option AV
 | .int k a,.int k' b=>match op with
  | .shl=>if b < 0 then none else some (.int k (shl k a b))
  | .shr=>if b < 0 then none else some (.int k (shr k a b))
  | op=>if k=k' then ibin op k a b else none
 | .bool a,.bool b=>match ti.k,op with
  | .bool,.eql=>some (.bool (a == b))
  | .bool,.neq=>some (.bool (!(a == b)))
  | _,_=>none
 | .str a,.str b=>match op with
  | .add=>if a.length+b.length≤4611686018427387904 then some (.str (a ++ b)) else none
  | .eql=>some (.bool (decide (a=b)))
  | .neq=>some (.bool (decide (¬ a=b)))
  | _=>none
 | .agg xs,.agg ys=>match ti.k,ti.eqn,op,ints xs,ints ys with
  | .struct _,true,.eql,some p,some q=>if p.length=ti.size∧p.map (·.1)=q.map (·.1) then some (.bool (decide (p=q))) else none
  | .struct _,true,.neq,some p,some q=>if p.length=ti.size∧p.map (·.1)=q.map (·.1) then some (.bool (!decide (p=q))) else none
  | .array _ _,true,.eql,some p,some q=>if p.length=ti.size∧p.map (·.1)=q.map (·.1) then some (.bool (decide (p=q))) else none
  | .array _ _,true,.neq,some p,some q=>if p.length=ti.size∧p.map (·.1)=q.map (·.1) then some (.bool (!decide (p=q))) else none
  | _,_,_,_,_=>abinB ti op xs ys
 | .nils,.nils=>match ti.k,op with
  | .slice _,.eql=>some (.bool true)
  | .slice _,.neq=>some (.bool false)
  | _,_=>none
 | .slc _ _ _ _,.nils=>match ti.k,op with
  | .slice _,.eql=>some (.bool false)
  | .slice _,.neq=>some (.bool true)
  | _,_=>none
 | .lst _ es,.nils=>match ti.k,op,es with
  | .slice _,.eql,_ :: _=>some (.bool false)
  | .slice _,.neq,_ :: _=>some (.bool true)
  | _,_,_=>none
 | .nilif,.nilif=>match ti.k,op,cn with
  | .iface,.eql,true=>some (.bool true)
  | .iface,.neq,true=>some (.bool false)
  | _,_,_=>none
 | .ifc,.nilif=>match ti.k,op with
  | .iface,.eql=>some (.bool false)
  | .iface,.neq=>some (.bool true)
  | _,_=>none
 | _,_=>none
def aun (op:UnOp):AV→Option AV
 | .int k n=>match op with
  | .neg=>some (.int k (wr k (0 - n)))
  | _=>none
 | .bool b=>match op with
  | .not=>some (.bool (!b))
  | _=>none
 | _=>none
def aconv (s d:TI):AV→Option AV
 | .int _ n=>match s.k,d.k with
  | .int _,.int k'=>some (.int k' (wr k' n))
  | _,_=>none
 | .str l=>match s.k,d.k with
  | .str,.str=>some (.str l)
  | _,_=>none
 | _=>none
def aconvB (tt:Nat→TI) (s d:Nat):AV→Option AV
 | .lst 1 [[.int .u8 n]]=>match (tt s).k,(tt d).k with
  | .slice e,.str=>match (tt e).k with
   | .int .u8=>some (.str [UInt8.ofNat n.toNat])
   | _=>none
  | _,_=>none
 | v=>aconv (tt s) (tt d) v
def amove (n:Nat):AV→Option AV
 | .ptr b i j=>some (.ptr b i (j+n))
 | .lptr t j=>some (.lptr t (j+n))
 | .iptr cs j=>some (.iptr cs (j+n))
 | .gptr g j=>some (.gptr g (j+n))
 | _=>none
def afieldAddr (ti:TI) (f:Nat) (v:AV):Option AV :=
 match ti.k with
 | .struct fs=>match fs[f]? with
  | some (off,sz,_)=>if sz=0 then none else amove off v
  | none=>none
 | _=>none
def apart (agg:Bool) (size off:Nat) (cs:List AV):Option AV :=
 if agg then (if off+size≤cs.length then some (.agg ((cs.drop off).take size)) else none) else cs[off]?
def afield (ti:TI) (f:Nat):AV→Option AV
 | .agg cs=>match ti.k with
  | .struct fs=>match fs[f]? with
   | some (off,sz,agg)=>apart agg sz off cs
   | none=>none
  | _=>none
 | _=>none
def aidx (tt:Nat→TI) (t:Nat) (v:AV):AV→Option AV
 | .int _ i=>match (tt t).k with
  | .array n e=>if 0≤i∧i < n then amove (i.toNat * (tt e).size) v else none
  | .slice e=>match v with
   | .slc b s o n=>if (tt e).size=s then (if 0≤i∧i < n then some (.ptr b (o+i.toNat) 0) else none) else none
   | .lst s es=>if (tt e).size=s then (if 0≤i∧i < es.length then some (.iptr (es.getD i.toNat []) 0) else none) else none
   | _=>none
  | _=>none
 | _=>none
def aindex (tt:Nat→TI) (t:Nat) (v:AV):AV→Option AV
 | .int _ i=>match (tt t).k,v with
  | .array n e,.agg cs=>if 0≤i∧i < n then apart (tt e).k.agg (tt e).size (i.toNat * (tt e).size) cs else none
  | .str,.str s=>if 0≤i∧i < s.length then some (.int .u8 (s.getD i.toNat 0).toNat) else none
  | _,_=>none
 | _=>none
def AV.cells:AV→List AV
 | .agg cs=>cs
 | v=>[v]
def afill (place:Nat→Option (Nat × Nat)):List AV→List (Nat × AV)→Option (List AV)
 | cs,[]=>some cs
 | cs,(i,v) :: rest=>match place i with
  | none=>none
  | some (off,sz) =>
   if v.cells.length=sz∧off+sz≤cs.length∧v.cells.all AV.cell=true then
    match v with
    | .lptr _ _=>none
    | v=>afill place (cs.take off ++ v.cells ++ cs.drop (off+sz)) rest
   else none
def abuild (tt:Nat→TI) (t:Nat) (ps:List (Nat × AV)):Option AV :=
 match (tt t).k with
 | .struct fs=>(afill (fun i=>(fs[i]?).map fun f=>(f.1,f.2.1)) (tt t).zero ps).map .agg
 | .array _ e=>(afill (fun i=>some (i * (tt e).size,(tt e).size)) (tt t).zero ps).map .agg
 | _=>none
def noL:AV→Bool
 | .lptr _ _=>false
 | _=>true
def isC:Operand→Bool
 | .const _=>true
 | _=>false
def pval (tt:Nat→TI) (ev:Operand→AV):Op→Option AV
 | .move x|.assign x=>some (ev x)
 | .pick c a b=>match ev c with
  | .bool t=>some (if t then ev a else ev b)
  | _=>none
 | .binOp op t x y _=>abin (tt t) op (isC x || isC y) (ev x) (ev y)
 | .unOp op _ x=>aun op (ev x)
 | .convert s d x=>aconvB tt s d (ev x)
 | .fieldAddr t x f=>afieldAddr (tt t) f (ev x)
 | .field t x f=>afield (tt t) f (ev x)
 | .indexAddr t x i=>aidx tt t (ev x) (ev i)
 | .index t x i=>aindex tt t (ev x) (ev i)
 | .extract x i=>match ev x with
  | .tup vs=>vs[i]?
  | _=>none
 | .build t ps=>abuild tt t (ps.toList.map fun p=>(p.1,ev p.2))
 | .makeFunc f first cap=>if (first.toList.map ev).all noL && (cap.toList.map ev).all noL then some (.fn f (first.toList.map ev) (cap.toList.map ev)) else none
 | _=>none
def VL (c:Cx) (lb:Bid→Option Nat) (v:AV) (x:Value):Prop :=
 match v with
 | .lptr t j=>∃ b,lb t=some b∧x=.pointer (some ⟨b,j,none⟩)
 | v=>VR c v x
theorem VL.vr {c:Cx} {lb:Bid→Option Nat} {v:AV} {x:Value} (h:VL c lb v x) (hv:noL v=true):VR c v x:=by
 cases v <;> first|exact h|cases hv
theorem VR.vl {c:Cx} (lb:Bid→Option Nat) {v:AV} {x:Value} (h:VR c v x):VL c lb v x:=by
 cases v <;> first|exact h|(simp [VR] at h)
theorem VL.mono {c c':Cx} (hc:c.Le c') {lb lb':Bid→Option Nat} (hl:∀ t b,lb t=some b→lb' t=some b) {v:AV} {x:Value} (h:VL c lb v x):VL c' lb' v x:=by
 cases v
 case lptr t j=>obtain ⟨b,hb,hx⟩:=h;exact ⟨b,hl t b hb,hx⟩
 all_goals exact VR.mono hc _ _ h
end Go.Av
namespace Go.Av
variable {P:Program} {tt:Nat→TI}
theorem VL_int {c:Cx} {lb:Bid→Option Nat} {k:IntKind} {n:Int} {x:Value}:VL c lb (.int k n) x ↔ x=.int k n:=by simp [VL,VR]
theorem VL_bool {c:Cx} {lb:Bid→Option Nat} {b:Bool} {x:Value}:VL c lb (.bool b) x ↔ x=.bool b:=by simp [VL,VR]
theorem ints_rel {c:Cx}:∀ {vs:List AV} {p:List (IntKind × Int)} {xs:List Value},ints vs=some p→VRs c vs xs→xs=ivs p
 | [],p,xs,h,hv=>by simp only[ints,Option.some.injEq] at h;subst h;simpa [VRs,ivs] using hv
 | v :: vs,p,xs,h,hv=>by
  cases v <;> simp only[ints,reduceCtorEq] at h
  cases hi:ints vs with
  | none=>simp [hi] at h
  | some q =>
   simp [hi] at h
   subst h
   simp only[VRs,VR] at hv
   obtain ⟨x,ys,rfl,rfl,h2⟩:=hv
   simp [ivs,ints_rel hi h2]
theorem bools_rel {c:Cx}:∀ {vs:List AV} {p:List Bool} {xs:List Value},bools vs=some p→VRs c vs xs→xs=bvs p
 | [],p,xs,h,hv=>by simp only[bools,Option.some.injEq] at h;subst h;simpa [VRs,bvs] using hv
 | v :: vs,p,xs,h,hv=>by
  cases v <;> simp only[bools,reduceCtorEq] at h
  cases hi:bools vs with
  | none=>simp [hi] at h
  | some q =>
   simp [hi] at h
   subst h
   simp only[VRs,VR] at hv
   obtain ⟨x,ys,rfl,rfl,h2⟩:=hv
   simp [bvs,bools_rel hi h2]
theorem addr_add (b o n:Nat):(⟨b,o,none⟩:Addr).add n=⟨b,o+n,none⟩:=Addr.add_mid b o n
theorem amove_sound {c:Cx} {lb:Bid→Option Nat} {n:Nat} {v v':AV} {x:Value} (hx:VL c lb v x) (h:amove n v=some v') :
  ∃ b o,x=.pointer (some ⟨b,o,none⟩)∧VL c lb v' (.pointer (some ⟨b,o+n,none⟩)):=by
 cases v <;> simp only[amove,reduceCtorEq,Option.some.injEq] at h <;> subst h
 case ptr b i j =>
  simp only[VL,VR] at hx ⊢
  obtain ⟨hb,rfl⟩:=hx
  exact ⟨_,_,rfl,hb,by simp [Nat.add_assoc]⟩
 case lptr t j =>
  simp only[VL] at hx ⊢
  obtain ⟨b,hb,rfl⟩:=hx
  exact ⟨_,_,rfl,b,hb,rfl⟩
 case iptr cs j =>
  simp only[VL,VR] at hx ⊢
  obtain ⟨b,o,xs,rfl,hi,hr,hcs,hv⟩:=hx
  exact ⟨_,_,rfl,b,o,xs,by simp [Nat.add_assoc],hi,hr,hcs,hv⟩
 case gptr g j =>
  simp only[VL,VR] at hx ⊢
  exact ⟨_,_,hx,rfl⟩
theorem apart_sound {c:Cx} {t:TypeId} {agg:Bool} {size off:Nat} {cs:List AV} {xs:List Value} {v:AV} {d:TypeDesc} {i:TypeInfo}
  (hd:P.underlying t=some d) (ha:d.isRow=agg) (hi:P.info? t=some i) (hs:i.size=size) (hcs:cs.all AV.cell=true) (hv:VRs c cs xs) (h:apart agg size off cs=some v) :
  ∃ x,VR c v x∧∀ w,(part t xs.toArray off).run P w=.ok x w:=by
 unfold apart at h
 have hagg:=fun w=>run_isAgg' (P:=P) (w:=w) hd
 rw [ha] at hagg
 cases agg with
 | true =>
  simp only[if_true] at h
  split at h
  ·rename_i hle
   simp only[Option.some.injEq] at h
   subst h
   refine ⟨.agg ((xs.drop off).take size).toArray,?_,fun w=>?_⟩
   ·simp only[VR]
    refine ⟨_,rfl,?_,(hv.drop off).take size⟩
    rw [List.all_eq_true] at hcs ⊢
    exact fun x hx=>hcs x (List.mem_of_mem_drop (List.mem_of_mem_take hx))
   ·unfold part
    rw [Sem.run_bind,hagg]
    simp [run_sizeOf' hi,hs]
  ·cases h
 | false =>
  simp only[Bool.false_eq_true,if_false] at h
  obtain ⟨x,hx,hr⟩:=hv.get off v h
  refine ⟨x,hr,fun w=>?_⟩
  unfold part
  rw [Sem.run_bind,hagg]
  simp [hx]
theorem afill_foldl (xs:List Value):∀ (vs:List Value) (off:Nat),off+vs.length≤xs.length →
  (vs.toArray.zipIdx.foldl (fun (cs:Array Value) (p:Value × Nat)=>cs.setIfInBounds (off+p.2) p.1) xs.toArray)=(xs.take off ++ vs ++ xs.drop (off+vs.length)).toArray:=by
 have key:∀ (vs:List Value) (off k:Nat) (xs:List Value),off+k+vs.length≤xs.length →
   (vs.zipIdx k).foldl (fun (cs:Array Value) (p:Value × Nat)=>cs.setIfInBounds (off+p.2) p.1) xs.toArray=(xs.take (off+k) ++ vs ++ xs.drop (off+k+vs.length)).toArray:=by
  intro vs
  induction vs with
  | nil=>intro off k xs _;simp
  | cons v vs ih =>
   intro off k xs hle
   simp only[List.length_cons] at hle
   simp only[List.zipIdx_cons,List.foldl_cons,List.setIfInBounds_toArray]
   rw [ih off (k+1) (xs.set (off+k) v) (by simp;omega)]
   congr 1
   have h1:(xs.set (off+k) v).take (off+(k+1))=xs.take (off+k) ++ [v]:=by
    rw [← Nat.add_assoc,List.take_succ_eq_append_getElem (by simp;omega),List.take_set_of_le (Nat.le_refl _)]
    simp
   have h2:(xs.set (off+k) v).drop (off+(k+1)+vs.length)=xs.drop (off+k+(vs.length+1)):=by
    rw [List.drop_set_of_lt (by omega)]
    congr 1;omega
   rw [h1,h2]
   simp
 intro vs off hle
 have:=key vs off 0 xs (by omega)
 simp only[Nat.add_zero] at this
 rw [← this]
 simp
theorem VR.cells {c:Cx} {v:AV} {x:Value} (h:VR c v x) (hc:v.cells.all AV.cell=true):VRs c v.cells x.cells.toList:=by
 cases v
 case agg cs =>
  simp only[VR] at h
  obtain ⟨xs,rfl,_,hv⟩:=h
  simpa [AV.cells,Value.cells] using hv
 case tup cs=>simp [AV.cells,AV.cell] at hc
 case undef=>simp [AV.cells,AV.cell] at hc
 all_goals
  have h1:=h.oneCell rfl
  have h2:x.cells.toList=[x]:=by cases x <;> simp_all [Value.cells,Value.oneCell']
  rw [h2]
  exact VRs.cons h VRs.nil
theorem afill_sound {c:Cx} {lb:Bid→Option Nat} {place:Nat→Option (Nat × Nat)}:∀ {ps:List (Nat × AV)} {qs:List (Nat × Value)} {cs cs':List AV} {xs:List Value},
    qs.length=ps.length→(∀ (i:Nat) p q,ps[i]?=some p→qs[i]?=some q→p.1=q.1∧VL c lb p.2 q.2)→cs.all AV.cell=true→VRs c cs xs→afill place cs ps=some cs' →
    ∃ xs',Instr.fill place xs.toArray qs=some xs'.toArray∧VRs c cs' xs'∧cs'.all AV.cell=true
  | [],qs,cs,cs',xs,hl,_,hc,hv,h=>by
    obtain rfl:qs=[]:=List.eq_nil_of_length_eq_zero (by simpa using hl)
    simp only[afill,Option.some.injEq] at h
    subst h
    exact ⟨xs,rfl,hv,hc⟩
  | (i,v) :: ps,qs,cs,cs',xs,hl,hp,hc,hv,h=>by
    cases qs with
    | nil=>simp at hl
    | cons q qs =>
      obtain ⟨hq1,hq2⟩:=hp 0 (i,v) q rfl rfl
      obtain ⟨j,x⟩:=q
      simp only at hq1 hq2
      subst hq1
      simp only[afill] at h
      cases hpl:place i with
      | none=>simp [hpl] at h
      | some osz =>
        obtain ⟨off,sz⟩:=osz
        simp only[hpl] at h
        split at h
        · rename_i hcond
          obtain ⟨h1,h2,h3⟩:=hcond
          have hnl:noL v=true:=by cases v <;> first|rfl|simp at h
          have hvx:=(hq2.vr hnl).cells h3
          have h':afill place (cs.take off ++ v.cells ++ cs.drop (off+sz)) ps=some cs':=by
            cases v <;> first|exact h|simp at h
          have hxl:x.cells.toList.length=sz:=by rw [hvx.length,h1]
          have hxs:xs.length=cs.length:=hv.length
          obtain ⟨xs',hf,hr,hc'⟩:=afill_sound (place:=place) (lb:=lb) (ps:=ps) (qs:=qs) (xs:=xs.take off ++ x.cells.toList ++ xs.drop (off+sz)) (by simpa using hl)
            (fun k p q hp' hq'=>hp (k+1) p q (by simpa using hp') (by simpa using hq'))
            (by
              rw [List.all_append,List.all_append,h3,Bool.and_true,Bool.and_eq_true]
              rw [List.all_eq_true] at hc
              exact ⟨List.all_eq_true.2 fun y hy=>hc y (List.mem_of_mem_take hy),List.all_eq_true.2 fun y hy=>hc y (List.mem_of_mem_drop hy)⟩)
            (((hv.take off).append hvx).append (hv.drop (off+sz))) h'
          refine ⟨xs',?_,hr,hc'⟩
          simp only[Instr.fill,hpl]
          rw [if_neg (by have hxl' : x.cells.size = sz := by simpa using hxl
                         simp [hxl'];omega)]
          rw [show (x.cells.zipIdx.foldl (fun cs x=>match x with|(c,j)=>cs.setIfInBounds (off+j) c) xs.toArray)=(xs.take off ++ x.cells.toList ++ xs.drop (off+sz)).toArray from ?_]
          · exact hf
          · have:=afill_foldl xs x.cells.toList off (by omega)
            rw [hxl] at this
            rw [← this]
        · cases h
end Go.Av
namespace Go.Av
variable {P:Program} {tt:Nat→TI}
theorem ba_append (a b:List UInt8):(⟨a.toArray⟩:ByteArray) ++ ⟨b.toArray⟩=⟨(a ++ b).toArray⟩:=by
 apply ByteArray.ext;simp
theorem ba_size (a:List UInt8):(⟨a.toArray⟩:ByteArray).size=a.length:=by simp [ByteArray.size]
theorem ba_list (a:List UInt8):(⟨a.toArray⟩:ByteArray).toList=a:=by rw [ByteArray.toList_eq]
theorem eq_of_ints_vrs {c:Cx} {xs:List AV} {p:List (IntKind × Int)} {x:Value} (h:VR c (.agg xs) x) (hp:ints xs=some p):x=.agg (ivs p).toArray:=by
 simp only[VR] at h
 obtain ⟨ys,rfl,_,hv⟩:=h
 rw [ints_rel hp hv]
theorem run_eqGuard_int {w:World} {op:BinOp} {t:TypeId} {x y:Operand} {k k':IntKind} {a b:Int}:(eqGuard op t x y (.int k a) (.int k' b)).run P w=.ok () w:=by
 unfold eqGuard;cases op <;> rfl
theorem run_eqGuard_bool {w:World} {op:BinOp} {t:TypeId} {x y:Operand} {a b:Bool}:(eqGuard op t x y (.bool a) (.bool b)).run P w=.ok () w:=by
 unfold eqGuard;cases op <;> rfl
theorem run_eqGuard_str {w:World} {op:BinOp} {t:TypeId} {x y:Operand} {a b:ByteArray}:(eqGuard op t x y (.string a) (.string b)).run P w=.ok () w:=by
 unfold eqGuard;cases op <;> rfl
theorem run_eqGuard_slice {w:World} {op:BinOp} {t:TypeId} {x y:Operand} {a b:Option Addr} {n m c d:Nat}:(eqGuard op t x y (.slice a n c) (.slice b m d)).run P w=.ok () w:=by
 unfold eqGuard;cases op <;> rfl
theorem binOp_eql_slice (t:TypeId) (a b:Option Addr) (n m c d:Nat):Go.binOp .eql t (.slice a n c) (.slice b m d)=(do pure (.bool (← Op.equal t (.slice a n c) (.slice b m d)))):=rfl
theorem binOp_neq_slice (t:TypeId) (a b:Option Addr) (n m c d:Nat):Go.binOp .neq t (.slice a n c) (.slice b m d)=(do pure (.bool (!(← Op.equal t (.slice a n c) (.slice b m d))))):=rfl
theorem run_equal_slice {w:World} {t e:TypeId} (hu:P.underlying t=some (.slice e)) (a:Option Addr) (n c m d:Nat):(Op.equal t (.slice a n c) (.slice none m d)).run P w=.ok a.isNone w:=by
 unfold Op.equal Op.maxDepth
 rw [Op.equalIn,Sem.run_bind,run_underlying hu]
 cases a <;> rfl
theorem run_eql_slice {w:World} {t e:TypeId} {X Y:Operand} (hu:P.underlying t=some (.slice e)) (a:Option Addr) (n c m d:Nat):(do eqGuard .eql t X Y (.slice a n c) (.slice none m d);Go.binOp .eql t (.slice a n c) (.slice none m d)).run P w=.ok (.bool a.isNone) w:=by
 rw [Sem.run_bind,run_eqGuard_slice]
 rw [Result.andThen_ok,binOp_eql_slice,Sem.run_bind,run_equal_slice hu];rfl
theorem run_neq_slice {w:World} {t e:TypeId} {X Y:Operand} (hu:P.underlying t=some (.slice e)) (a:Option Addr) (n c m d:Nat):(do eqGuard .neq t X Y (.slice a n c) (.slice none m d);Go.binOp .neq t (.slice a n c) (.slice none m d)).run P w=.ok (.bool (!a.isNone)) w:=by
 rw [Sem.run_bind,run_eqGuard_slice]
 rw [Result.andThen_ok,binOp_neq_slice,Sem.run_bind,run_equal_slice hu];rfl
theorem run_eqGuard_nilif {w:World} {t:TypeId} {op:BinOp} {X Y:Operand} (h:isC X=true ∨ isC Y=true):(eqGuard op t X Y .nilIface .nilIface).run P w=.ok () w:=by
 cases X <;> cases Y <;> (try (exfalso;revert h;simp [isC];done)) <;> (unfold eqGuard;cases op <;> rfl)
theorem run_eqGuard_ifc {w:World} {t:TypeId} {op:BinOp} {X Y:Operand} (a:TypeId) (b:Value):(eqGuard op t X Y (.iface a b) .nilIface).run P w=.ok () w:=by
 unfold eqGuard
 cases op <;> rfl
theorem run_equal_nilif {w:World} {t:TypeId} {ms:Array (String × TypeId)} (hu:P.underlying t=some (.interface ms)):(Op.equal t .nilIface .nilIface).run P w=.ok true w:=by
 unfold Op.equal Op.maxDepth
 rw [Op.equalIn,Sem.run_bind,run_underlying hu];rfl
theorem run_equal_ifc {w:World} {t:TypeId} {ms:Array (String × TypeId)} (hu:P.underlying t=some (.interface ms)) (a:TypeId) (b:Value):(Op.equal t (.iface a b) .nilIface).run P w=.ok false w:=by
 unfold Op.equal Op.maxDepth
 rw [Op.equalIn,Sem.run_bind,run_underlying hu];rfl
theorem decide_not_beq (a b:Int):(a != b)=decide (¬ a=b):=by
 rw [Bool.eq_iff_iff];simp
theorem binOp_eql_bool (t:TypeId) (a b:Bool):Go.binOp .eql t (.bool a) (.bool b)=(do pure (.bool (← Op.equal t (.bool a) (.bool b)))):=rfl
theorem binOp_neq_bool (t:TypeId) (a b:Bool):Go.binOp .neq t (.bool a) (.bool b)=(do pure (.bool (!(← Op.equal t (.bool a) (.bool b))))):=rfl
theorem run_equal_bool {w:World} {t:TypeId} (hu:P.underlying t=some .bool) (a b:Bool):(Op.equal t (.bool a) (.bool b)).run P w=.ok (a == b) w:=by
 unfold Op.equal Op.maxDepth
 rw [Op.equalIn,Sem.run_bind,run_underlying hu]
 rfl
theorem slice_elem (T:Tab P tt) {t e:Nat} (hk:(tt t).k=.slice e):P.underlying t=some (.slice e)∧∃ i,P.info? e=some i:=by
 have hg:=(T.good hk (by simp)).kind
 rw [hk] at hg
 exact ⟨hg.1,Option.isSome_iff_exists.1 hg.2⟩
theorem eq_of_bools_vrs {c:Cx} {xs:List AV} {p:List Bool} {x:Value} (h:VR c (.agg xs) x) (hp:bools xs=some p):x=.agg (bvs p).toArray:=by
 simp only[VR] at h
 obtain ⟨ys,rfl,_,hv⟩:=h
 rw [bools_rel hp hv]
theorem abinB_sound (T:Tab P tt) {c:Cx} {lb:Bid→Option Nat} {t:TypeId} {op:BinOp} {xs ys:List AV} {r:AV} {x y:Value} {X Y:Operand}
  (hx:VR c (.agg xs) x) (hy:VR c (.agg ys) y) (h:abinB (tt t) op xs ys=some r) :
  ∃ z,VL c lb r z∧∀ w,(do eqGuard op t X Y x y;Go.binOp op t x y).run P w=.ok z w:=by
 unfold abinB at h
 split at h
 all_goals try (cases h;done)
 all_goals
  rename_i q1 q2 q3 q4 q5 q6 q7 he hes hp hq
  split at h
  ·rename_i hl
   cases h
   have hE:EqFactB P t (tt t).size:=(T.good he (by simp)).eqb (by assumption)
   have hx':=eq_of_bools_vrs hx hp
   have hy':=eq_of_bools_vrs hy hq
   subst hx' hy'
   refine ⟨_,VL_bool.2 rfl,fun w=>?_⟩
   first
   | exact (hE _ _ hl.1 hl.2 w X Y).1
   | exact (hE _ _ hl.1 hl.2 w X Y).2
  ·cases h
theorem abin_sound (T:Tab P tt) {c:Cx} {lb:Bid→Option Nat} {t:TypeId} {op:BinOp} {cn:Bool} {u v r:AV} {x y:Value} {X Y:Operand}
    (hcn:cn=true→isC X=true ∨ isC Y=true) (hx:VL c lb u x) (hy:VL c lb v y) (h:abin (tt t) op cn u v=some r) :
    ∃ z,VL c lb r z∧∀ w,(do eqGuard op t X Y x y;Go.binOp op t x y).run P w=.ok z w:=by
  cases u <;> cases v <;> simp only[abin,reduceCtorEq] at h
  case int.int k a k' b =>
    rw [VL_int] at hx hy
    subst hx hy
    have hshift:∀ op',(op'=.shl ∨ op'=.shr)→¬ b < 0→∃ z,VL c lb (.int k (if op'=.shl then shl k a b else shr k a b)) z∧∀ w,(do eqGuard op' t X Y (.int k a) (.int k' b);Go.binOp op' t (.int k a) (.int k' b)).run P w=.ok z w:=by
      intro op' ho hb
      refine ⟨_,VL_int.2 rfl,fun w=>?_⟩
      rw [Sem.run_bind,run_eqGuard_int]
      rcases ho with rfl|rfl <;> simp [Go.binOp,Op.shift,hb,shl,shr,wr]
    cases op
    case shl =>
      simp only at h
      split at h
      · cases h
      · rename_i hb
        cases h
        simpa using hshift .shl (.inl rfl) hb
    case shr =>
      simp only at h
      split at h
      · cases h
      · rename_i hb
        cases h
        simpa using hshift .shr (.inr rfl) hb
    all_goals
      simp only at h
      split at h
      · rename_i hk
        subst hk
        simp only[ibin] at h
        first
        | (split at h
           · cases h
           · rename_i hb
             cases h
             refine ⟨_,VL_int.2 rfl,fun w=>?_⟩
             rw [Sem.run_bind,run_eqGuard_int]
             simp [Go.binOp,Op.intDiv,hb,wr])
        | (cases h
           refine ⟨_,VL_int.2 rfl,fun w=>?_⟩
           rw [Sem.run_bind,run_eqGuard_int]
           simp [Go.binOp,Op.intArith,Op.intBits,bitop,wr]
           done)
        | (cases h
           refine ⟨_,VL_bool.2 rfl,fun w=>?_⟩
           rw [Sem.run_bind,run_eqGuard_int]
           simp [Go.binOp,Op.intCmp,decide_not_beq]
           done)
        | (cases h
           refine ⟨_,VL_bool.2 rfl,fun w=>?_⟩
           rw [Sem.run_bind,run_eqGuard_int]
           simp [Go.binOp,Op.intCmp,decide_not_beq]
           rw [Bool.eq_iff_iff];simp)
      · cases h
  case bool.bool a b =>
    rw [VL_bool] at hx hy
    subst hx hy
    split at h
    · rename_i hk
      have hu:P.underlying t=some .bool:=by have:=(T.good hk (by simp)).kind;rw [hk] at this;exact this
      cases h
      refine ⟨_,VL_bool.2 rfl,fun w=>?_⟩
      rw [Sem.run_bind,run_eqGuard_bool]
      rw [Result.andThen_ok,binOp_eql_bool,Sem.run_bind,run_equal_bool hu];rfl
    · rename_i hk
      have hu:P.underlying t=some .bool:=by have:=(T.good hk (by simp)).kind;rw [hk] at this;exact this
      cases h
      refine ⟨_,VL_bool.2 rfl,fun w=>?_⟩
      rw [Sem.run_bind,run_eqGuard_bool]
      rw [Result.andThen_ok,binOp_neq_bool,Sem.run_bind,run_equal_bool hu];rfl
    · cases h
  case str.str a b =>
    simp only[VL,VR] at hx hy
    subst hx hy
    cases op <;> simp only[reduceCtorEq] at h
    case add =>
      split at h
      · rename_i hl
        cases h
        refine ⟨.string ⟨(a ++ b).toArray⟩,by simp [VL,VR],fun w=>?_⟩
        rw [Sem.run_bind,run_eqGuard_str]
        have hm:IntKind.i64.max=9223372036854775807:=by decide
        simp [Go.binOp,Op.stringOp,ba_size,ba_append,hm]
        omega
      · cases h
    case eql =>
      cases h
      refine ⟨_,VL_bool.2 rfl,fun w=>?_⟩
      rw [Sem.run_bind,run_eqGuard_str]
      simp only[Go.binOp,Op.stringOp,ba_list,Result.andThen_ok,Sem.run_pure]
      congr 2
      rw [Bool.eq_iff_iff];simp
    case neq =>
      cases h
      refine ⟨_,VL_bool.2 rfl,fun w=>?_⟩
      rw [Sem.run_bind,run_eqGuard_str]
      simp only[Go.binOp,Op.stringOp,ba_list,Result.andThen_ok,Sem.run_pure]
      congr 2
      rw [Bool.eq_iff_iff];simp
  case nilif.nilif =>
    have hx':x=.nilIface:=by simpa [VL,VR] using hx
    have hy':y=.nilIface:=by simpa [VL,VR] using hy
    subst hx' hy'
    split at h
    · rename_i hk
      obtain ⟨ms,hu⟩:∃ ms,P.underlying t=some (.interface ms):=by have:=(T.good hk (by simp)).kind;rw [hk] at this;exact this
      cases h
      exact ⟨_,VL_bool.2 rfl,fun w=>by rw [Sem.run_bind,run_eqGuard_nilif (hcn rfl)];show (Go.binOp .eql t .nilIface .nilIface).run P w=_;simp [Go.binOp,run_equal_nilif hu]⟩
    · rename_i hk
      obtain ⟨ms,hu⟩:∃ ms,P.underlying t=some (.interface ms):=by have:=(T.good hk (by simp)).kind;rw [hk] at this;exact this
      cases h
      exact ⟨_,VL_bool.2 rfl,fun w=>by rw [Sem.run_bind,run_eqGuard_nilif (hcn rfl)];show (Go.binOp .neq t .nilIface .nilIface).run P w=_;simp [Go.binOp,run_equal_nilif hu]⟩
    · cases h
  case ifc.nilif =>
    have hx':∃ a b,x=.iface a b:=by simpa [VL,VR] using hx
    have hy':y=.nilIface:=by simpa [VL,VR] using hy
    obtain ⟨a,b,rfl⟩:=hx'
    subst hy'
    split at h
    · rename_i hk
      obtain ⟨ms,hu⟩:∃ ms,P.underlying t=some (.interface ms):=by have:=(T.good hk (by simp)).kind;rw [hk] at this;exact this
      cases h
      exact ⟨_,VL_bool.2 rfl,fun w=>by rw [Sem.run_bind,run_eqGuard_ifc];show (Go.binOp .eql t (.iface a b) .nilIface).run P w=_;simp [Go.binOp,run_equal_ifc hu]⟩
    · rename_i hk
      obtain ⟨ms,hu⟩:∃ ms,P.underlying t=some (.interface ms):=by have:=(T.good hk (by simp)).kind;rw [hk] at this;exact this
      cases h
      exact ⟨_,VL_bool.2 rfl,fun w=>by rw [Sem.run_bind,run_eqGuard_ifc];show (Go.binOp .neq t (.iface a b) .nilIface).run P w=_;simp [Go.binOp,run_equal_ifc hu]⟩
    · cases h
  case nils.nils =>
    have hx':x=.slice none 0 0:=by simpa [VL,VR] using hx
    have hy':y=.slice none 0 0:=by simpa [VL,VR] using hy
    subst hx' hy'
    split at h
    · rename_i hk
      have hu:=(slice_elem T hk).1
      cases h
      exact ⟨_,VL_bool.2 rfl,fun w=>run_eql_slice hu _ _ _ _ _⟩
    · rename_i hk
      have hu:=(slice_elem T hk).1
      cases h
      exact ⟨_,VL_bool.2 rfl,fun w=>run_neq_slice hu _ _ _ _ _⟩
    · cases h
  case slc.nils b e i n =>
    have hy':y=.slice none 0 0:=by simpa [VL,VR] using hy
    have hx':VR c (.slc b e i n) x:=hx
    simp only[VR] at hx'
    obtain ⟨_,_,a,cap,_,_,_,rfl,_⟩:=hx'
    subst hy'
    split at h
    · rename_i hk
      have hu:=(slice_elem T hk).1
      cases h
      exact ⟨_,VL_bool.2 rfl,fun w=>run_eql_slice hu _ _ _ _ _⟩
    · rename_i hk
      have hu:=(slice_elem T hk).1
      cases h
      exact ⟨_,VL_bool.2 rfl,fun w=>run_neq_slice hu _ _ _ _ _⟩
    · cases h
  case lst.nils e es =>
    have hy':y=.slice none 0 0:=by simpa [VL,VR] using hy
    have hx':VR c (.lst e es) x:=hx
    simp only[VR] at hx'
    obtain ⟨a,cap,vs,rfl,hcap,hn,hrs⟩:=hx'
    subst hy'
    split at h
    · rename_i hk
      have hu:=(slice_elem T hk).1
      cases h
      refine ⟨_,VL_bool.2 rfl,fun w=>?_⟩
      cases a with
      | none=>cases hn rfl
      | some a=>exact run_eql_slice hu _ _ _ _ _
    · rename_i hk
      have hu:=(slice_elem T hk).1
      cases h
      refine ⟨_,VL_bool.2 rfl,fun w=>?_⟩
      cases a with
      | none=>cases hn rfl
      | some a=>exact run_neq_slice hu _ _ _ _ _
    · cases h
  case agg.agg xs ys =>
    split at h
    all_goals try (exact abinB_sound T (show VR c (.agg xs) x from hx) (show VR c (.agg ys) y from hy) h)
    all_goals
      rename_i q1 q2 q3 q4 q5 q6 q7 he hes hp hq
      split at h
      · rename_i hl
        cases h
        have hk:∀ k,(tt t).k=k→k ≠ .unknown→EqFact P t (tt t).size:=fun k hk hn=>(T.good hk hn).eqn (by assumption)
        have hx':=eq_of_ints_vrs (show VR c (.agg xs) x from hx) hp
        have hy':=eq_of_ints_vrs (show VR c (.agg ys) y from hy) hq
        subst hx' hy'
        refine ⟨_,VL_bool.2 rfl,fun w=>?_⟩
        have hE:EqFact P t (tt t).size:=hk _ he (by simp)
        first
        | exact (hE _ _ hl.1 hl.2 w X Y).1
        | exact (hE _ _ hl.1 hl.2 w X Y).2
      · cases h
theorem struct_field (T:Tab P tt) {t:TypeId} {fs:List (Nat × Nat × Bool)} (hk:(tt t).k=.struct fs) {f off sz:Nat} {ag:Bool} (hf:fs[f]?=some (off,sz,ag)) :
  ∃ (fields:Array Field) (fd:Field) (i:TypeInfo) (d:TypeDesc),P.underlying t=some (.struct fields)∧fields[f]?=some fd∧fd.offset=off∧P.info? fd.type=some i∧i.size=sz∧P.underlying fd.type=some d∧d.isRow=ag:=by
 have hg:=(T.good hk (by simp)).kind
 rw [hk] at hg
 obtain ⟨fields,hu,hm,hall⟩:=hg
 have h1:(fields.toList.map (fun f=>(f.offset,P.cellsOf f.type,aggB P f.type)))[f]?=some (off,sz,ag):=by rw [hm];exact hf
 rw [List.getElem?_map] at h1
 cases hfd:fields.toList[f]? with
 | none=>simp [hfd] at h1
 | some fd =>
  simp only[hfd,Option.map_some,Option.some.injEq,Prod.mk.injEq] at h1
  obtain ⟨e1,e2,e3⟩:=h1
  obtain ⟨h2,h3⟩:=hall fd (List.mem_of_getElem? hfd)
  obtain ⟨i,hi⟩:=Option.isSome_iff_exists.1 h2
  obtain ⟨d,hd⟩:=Option.isSome_iff_exists.1 h3
  refine ⟨fields,fd,i,d,hu,by simpa using hfd,e1,hi,?_,hd,?_⟩
  ·simpa [Program.cellsOf,hi] using e2
  ·simpa [aggB,hd] using e3
theorem afieldAddr_sound (T:Tab P tt) {c:Cx} {lb:Bid→Option Nat} {t f:Nat} {v r:AV} {x:Value} (hx:VL c lb v x) (h:afieldAddr (tt t) f v=some r) :
  ∃ z,VL c lb r z∧∀ w,(Instr.fieldAt t x f).run P w=.ok z w:=by
 unfold afieldAddr at h
 split at h
 ·rename_i fs hk
  split at h
  ·rename_i off sz ag hf
   split at h
   ·cases h
   ·rename_i hsz
    obtain ⟨fields,fd,i,d,hu,hfd,rfl,hi,rfl,hd,_⟩:=struct_field T hk hf
    obtain ⟨b,o,rfl,hr⟩:=amove_sound hx h
    refine ⟨_,hr,fun w=>?_⟩
    unfold Instr.fieldAt
    rw [Sem.run_bind,run_underlying hu,Result.andThen_ok]
    simp only[hfd]
    simp [Instr.sureAddr,fieldPlace,run_sizeOf' hi,hsz,addr_add]
  ·cases h
 ·cases h
theorem afield_sound (T:Tab P tt) {c:Cx} {lb:Bid→Option Nat} {t f:Nat} {v r:AV} {x:Value} (hx:VL c lb v x) (h:afield (tt t) f v=some r) :
  ∃ z,VL c lb r z∧∀ w,(Instr.field t x f).run P w=.ok z w:=by
 cases v <;> simp only[afield,reduceCtorEq] at h
 rename_i cs
 split at h
 ·rename_i fs hk
  split at h
  ·rename_i off sz ag hf
   obtain ⟨fields,fd,i,d,hu,hfd,rfl,hi,rfl,hd,ha⟩:=struct_field T hk hf
   have hx':VR c (.agg cs) x:=hx
   simp only[VR] at hx'
   obtain ⟨xs,rfl,hcs,hv⟩:=hx'
   obtain ⟨z,hz,hp⟩:=apart_sound hd ha hi rfl hcs hv h
   refine ⟨z,hz.vl lb,fun w=>?_⟩
   unfold Instr.field
   rw [Sem.run_bind,run_underlying hu,Result.andThen_ok]
   simp only[hfd]
   simp [asAgg,hp]
  ·cases h
 ·cases h
theorem array_elem (T:Tab P tt) {t n e:Nat} (hk:(tt t).k=.array n e):P.underlying t=some (.array n e)∧∃ i,P.info? e=some i:=by
 have hg:=(T.good hk (by simp)).kind
 rw [hk] at hg
 exact ⟨hg.1,Option.isSome_iff_exists.1 hg.2⟩
theorem info_of (T:Tab P tt) {t:Nat} (h:(tt t).knows=true):∃ i,P.info? t=some i∧i.size=(tt t).size∧i.bytes=(tt t).bytes:=by
 have hg:=(T.all t h).info
 obtain ⟨i,z,hi,hs,hb,_⟩:=hg
 exact ⟨i,hi,hs,hb⟩
theorem agg_of (T:Tab P tt) {t:Nat} (h:(tt t).knows=true):∃ d,P.underlying t=some d∧d.isRow=(tt t).k.agg:=by
 have hg:=(T.all t h).kind
 cases hk:(tt t).k <;> rw [hk] at hg <;> simp only[TK.agg]
 case unknown=>simp [TI.knows,hk] at h
 case int k=>exact ⟨_,hg,rfl⟩
 case iface=>obtain ⟨ms,hg⟩:=hg;exact ⟨_,hg,rfl⟩
 case bool=>exact ⟨_,hg,rfl⟩
 case str=>exact ⟨_,hg,rfl⟩
 case struct fs=>obtain ⟨f,hu,_⟩:=hg;exact ⟨_,hu,rfl⟩
 case array n e=>exact ⟨_,hg.1,rfl⟩
 case slice e=>exact ⟨_,hg.1,rfl⟩
 case ptr=>obtain ⟨e,hu⟩:=hg;exact ⟨_,hu,rfl⟩
 case plain=>exact hg
theorem elem_info (T:Tab P tt) {t e:Nat} (h:(tt t).k.elem=some e):∃ i,P.info? e=some i∧i.size=(tt e).size∧i.bytes=(tt e).bytes:=info_of T (T.elem t e h)
theorem elem_agg (T:Tab P tt) {t e:Nat} (h:(tt t).k.elem=some e):∃ d,P.underlying e=some d∧d.isRow=(tt e).k.agg:=agg_of T (T.elem t e h)
theorem VRss.getD_nil {c:Cx} {vs:List (List AV)} {xs:List (List Value)} (h:VRss c vs xs) {i:Nat} (hi:i < vs.length):∃ row,xs[i]?=some row∧VRs c (vs.getD i []) row:=by
 obtain ⟨row,hr,hv⟩:=h.get i _ (List.getElem?_eq_getElem hi)
 refine ⟨row,hr,?_⟩
 rw [List.getD_eq_getElem?_getD,List.getElem?_eq_getElem hi]
 exact hv
theorem aidx_sound (T:Tab P tt) {c:Cx} {lb:Bid→Option Nat} {t:Nat} {v u r:AV} {x y:Value} (hx:VL c lb v x) (hy:VL c lb u y) (h:aidx tt t v u=some r) :
  ∃ z,VL c lb r z∧∀ w,(Instr.indexAt t x y).run P w=.ok z w:=by
 cases u <;> simp only[aidx,reduceCtorEq] at h
 rename_i k i
 rw [VL_int] at hy
 subst hy
 split at h
 ·rename_i n e hk
  split at h
  ·rename_i hb
   obtain ⟨hu,_⟩:=array_elem T hk
   obtain ⟨ie,hie,hsz,_⟩:=elem_info T (t:=t) (e:=e) (by rw [hk];rfl)
   obtain ⟨b,o,rfl,hr⟩:=amove_sound hx h
   refine ⟨_,hr,fun w=>?_⟩
   unfold Instr.indexAt
   simp only[asIntOf,Sem.run_bind,Sem.run_pure,Result.andThen_ok,run_underlying hu,Instr.sureAddr]
   simp only[hb,and_self,if_true,Sem.run_bind,run_sizeOf' hie,Result.andThen_ok,Sem.run_pure,hsz,addr_add]
  ·cases h
 ·rename_i e hk
  obtain ⟨hu,_⟩:=slice_elem T hk
  obtain ⟨ie,hie,hsz,_⟩:=elem_info T (t:=t) (e:=e) (by rw [hk];rfl)
  split at h
  ·rename_i b s o n
   split at h
   ·rename_i hes
    split at h
    ·rename_i hb
     cases h
     have hx':VR c (.slc b s o n) x:=hx
     simp only[VR] at hx'
     obtain ⟨hd,he,a,cap,h1,h2,h3,rfl,h4⟩:=hx'
     have hcap:cap ≠ 0:=by omega
     obtain rfl:=h4 hcap
     refine ⟨.pointer (some ⟨(c.fm b).blk,(o+i.toNat) * (c.fm b).esz+0,none⟩),by simp only[VL,VR];exact ⟨hd,trivial⟩,fun w=>?_⟩
     unfold Instr.indexAt
     simp only[asIntOf,Sem.run_bind,Sem.run_pure,Result.andThen_ok,run_underlying hu]
     simp only[hb,and_self,if_true,Sem.run_bind,run_sizeOf' hie,Result.andThen_ok,Sem.run_pure,hsz,addr_add]
     rw [hes,← he,Nat.add_mul,Nat.add_zero]
    ·cases h
   ·cases h
  ·rename_i s es
   split at h
   ·rename_i hes
    split at h
    ·rename_i hb
     cases h
     have hx':VR c (.lst s es) x:=hx
     simp only[VR] at hx'
     obtain ⟨a,cap,vs,rfl,_,hn,hrows,hat,hvs⟩:=hx'
     have hi:i.toNat < es.length:=by omega
     obtain ⟨row,hrow,hvr⟩:=hvs.getD_nil hi
     have hvne:vs ≠ []:=by intro e;subst e;simp at hrow
     rcases hat with hat|⟨b,o,rfl,him,hr⟩
     ·exact absurd hat hvne
     ·refine ⟨.pointer (some ⟨b,o+i.toNat * s+0,none⟩),?_,fun w=>?_⟩
      ·simp only[VL,VR]
       refine ⟨b,o+i.toNat * s,row,rfl,him,hr _ _ hrow,?_,hvr⟩
       rw [List.getD_eq_getElem?_getD,List.getElem?_eq_getElem hi]
       exact (hrows _ (List.getElem_mem hi)).2
      ·unfold Instr.indexAt
       simp only[asIntOf,Sem.run_bind,Sem.run_pure,Result.andThen_ok,run_underlying hu]
       simp only[hb,and_self,if_true,Sem.run_bind,run_sizeOf' hie,Result.andThen_ok,Sem.run_pure,hsz,addr_add,hes,Nat.add_zero]
    ·cases h
   ·cases h
  ·cases h
 ·cases h
theorem ba_get (s:List UInt8) (i:Nat) (hi:i < s.length):(⟨s.toArray⟩:ByteArray)[i]?=some (s.getD i 0):=by
 have:i < (⟨s.toArray⟩:ByteArray).size:=by rw [ba_size];exact hi
 rw [getElem?_pos _ i this]
 simp [ByteArray.getElem_eq_getElem_data,List.getD_eq_getElem?_getD,hi]
theorem aindex_sound (T:Tab P tt) {c:Cx} {lb:Bid→Option Nat} {t:Nat} {v u r:AV} {x y:Value} (hx:VL c lb v x) (hy:VL c lb u y) (h:aindex tt t v u=some r) :
  ∃ z,VL c lb r z∧∀ w,(Instr.index t x y).run P w=.ok z w:=by
 cases u <;> simp only[aindex,reduceCtorEq] at h
 rename_i k i
 rw [VL_int] at hy
 subst hy
 split at h
 ·rename_i n e cs hk
  split at h
  ·rename_i hb
   obtain ⟨hu,_⟩:=array_elem T hk
   obtain ⟨ie,hie,hsz,_⟩:=elem_info T (t:=t) (e:=e) (by rw [hk];rfl)
   obtain ⟨d,hd,ha⟩:=elem_agg T (t:=t) (e:=e) (by rw [hk];rfl)
   have hx':VR c (.agg cs) x:=hx
   simp only[VR] at hx'
   obtain ⟨xs,rfl,hcs,hv⟩:=hx'
   obtain ⟨z,hz,hp⟩:=apart_sound hd ha hie hsz hcs hv h
   refine ⟨z,hz.vl lb,fun w=>?_⟩
   unfold Instr.index
   simp only[asIntOf,Sem.run_bind,Sem.run_pure,Result.andThen_ok,run_underlying hu]
   simp only[hb,and_self,if_true,Sem.run_bind,run_sizeOf' hie,Result.andThen_ok,hsz,hp]
  ·cases h
 ·rename_i s hk
  split at h
  ·rename_i hb
   cases h
   have hu:P.underlying t=some .string:=by have:=(T.good hk (by simp)).kind;rw [hk] at this;exact this
   have hx':VR c (.str s) x:=hx
   simp only[VR] at hx'
   subst hx'
   refine ⟨_,VL_int.2 rfl,fun w=>?_⟩
   unfold Instr.index
   simp only[asIntOf,Sem.run_bind,Sem.run_pure,Result.andThen_ok,run_underlying hu]
   simp only[hb.1,if_true,ba_get s i.toNat (by omega),Sem.run_pure]
  ·cases h
 ·cases h
theorem VRs.of_list {c:Cx} {lb:Bid→Option Nat} {ev:Operand→AV} {ρ:Operand→Value} (hE:∀ x,VL c lb (ev x) (ρ x)):∀ (l:List Operand),(l.map ev).all noL=true→VRs c (l.map ev) (l.map ρ)
 | [],_=>VRs.nil
 | x :: l,h=>by
  simp only[List.map_cons,List.all_cons,Bool.and_eq_true] at h
  exact VRs.cons ((hE x).vr h.1) (VRs.of_list hE l h.2)
theorem places_of:∀ {l:List Field},(∀ f ∈ l,(P.info? f.type).isSome=true∧(P.underlying f.type).isSome=true) →
  l.mapM (fun f=>(P.info? f.type).map fun i=>(f.offset,i.size))=some ((l.map (fun f=>(f.offset,P.cellsOf f.type,aggB P f.type))).map fun f=>(f.1,f.2.1))
 | [],_=>rfl
 | f :: l,hall=>by
  obtain ⟨i',hi'⟩:=Option.isSome_iff_exists.1 (hall f (by simp)).1
  simp only[List.mapM_cons,hi',Option.map_some,Option.bind_eq_bind,Option.bind_some,places_of (l:=l) (fun g hg=>hall g (by simp [hg]))]
  simp [Program.cellsOf,hi']
theorem abuild_sound (T:Tab P tt) {c:Cx} {lb:Bid→Option Nat} {t:Nat} {ev:Operand→AV} {ρ:Operand→Value} (hE:∀ x,VL c lb (ev x) (ρ x)) {ps:Array (Nat × Operand)} {r:AV}
  (h:abuild tt t (ps.toList.map fun p=>(p.1,ev p.2))=some r):∃ z,VL c lb r z∧∀ w,(Instr.build t (ps.map fun (i,x)=>(i,ρ x))).run P w=.ok z w:=by
 unfold abuild at h
 have hps:∀ (i:Nat) p q,(ps.toList.map fun p=>(p.1,ev p.2))[i]?=some p→(ps.toList.map fun p=>(p.1,ρ p.2))[i]?=some q→p.1=q.1∧VL c lb p.2 q.2:=by
  intro i p q hp hq
  rw [List.getElem?_map] at hp hq
  cases hi:ps.toList[i]? with
  | none=>simp [hi] at hp
  | some o =>
   simp only[hi,Option.map_some,Option.some.injEq] at hp hq
   subst hp hq
   exact ⟨rfl,hE _⟩
 split at h
 ·rename_i fs hk
  cases hf:afill (fun i=>(fs[i]?).map fun f=>(f.1,f.2.1)) (tt t).zero (ps.toList.map fun p=>(p.1,ev p.2)) with
  | none=>simp [hf] at h
  | some cs =>
   simp only[hf,Option.map_some,Option.some.injEq] at h
   subst h
   obtain ⟨i,z,hi,hsz,_,hz,hzr,hzl,hzc⟩:=(T.good hk (by simp)).info
   obtain ⟨xs',hfill,hv,hc⟩:=afill_sound (place:=fun i=>(fs[i]?).map fun f=>(f.1,f.2.1)) (c:=c) (lb:=lb) (by simp) hps hzc (hzr c) hf
   have hg:=(T.good hk (by simp)).kind
   rw [hk] at hg
   obtain ⟨fields,hu,hm,hall⟩:=hg
   refine ⟨.agg xs'.toArray,by simp only[VL,VR];exact ⟨xs',rfl,hc,hv⟩,fun w=>?_⟩
   refine run_build w t _ _ ?_
   unfold Program.built
   simp only[hi,hu,hz]
   have hmm:fields.toList.mapM (fun f=>(P.info? f.type).map fun i=>(f.offset,i.size))=some (fs.map fun f=>(f.1,f.2.1)):=by
    rw [← hm]
    exact places_of hall
   rw [hmm]
   simp only
   rw [show z.cells=z.cells.toList.toArray by simp,show (ps.map fun (i,x)=>(i,ρ x)).toList=ps.toList.map fun p=>(p.1,ρ p.2) by simp]
   rw [show (fun x=>(fs.map fun f=>(f.1,f.2.1)).toArray[x]?)=(fun i=>(fs[i]?).map fun f=>(f.1,f.2.1)) by funext i;simp]
   exact hfill
 ·rename_i n e hk
  cases hf:afill (fun i=>some (i * (tt e).size,(tt e).size)) (tt t).zero (ps.toList.map fun p=>(p.1,ev p.2)) with
  | none=>simp [hf] at h
  | some cs =>
   simp only[hf,Option.map_some,Option.some.injEq] at h
   subst h
   obtain ⟨i,z,hi,hsz,_,hz,hzr,hzl,hzc⟩:=(T.good hk (by simp)).info
   obtain ⟨xs',hfill,hv,hc⟩:=afill_sound (place:=fun i=>some (i * (tt e).size,(tt e).size)) (c:=c) (lb:=lb) (by simp) hps hzc (hzr c) hf
   obtain ⟨hu,_⟩:=array_elem T hk
   obtain ⟨ie,hie,hsze,_⟩:=elem_info T (t:=t) (e:=e) (by rw [hk];rfl)
   refine ⟨.agg xs'.toArray,by simp only[VL,VR];exact ⟨xs',rfl,hc,hv⟩,fun w=>?_⟩
   refine run_build w t _ _ ?_
   unfold Program.built
   simp only[hi,hu,hz,hie,hsze]
   rw [show z.cells=z.cells.toList.toArray by simp,show (ps.map fun (i,x)=>(i,ρ x)).toList=ps.toList.map fun p=>(p.1,ρ p.2) by simp]
   exact hfill
 ·cases h
theorem aun_sound {c:Cx} {lb:Bid→Option Nat} {op:UnOp} {v r:AV} {x:Value} (hx:VL c lb v x) (h:aun op v=some r):∃ z,VL c lb r z∧∀ w,(Op.unary op x).run P w=.ok z w:=by
 cases v <;> cases op <;> simp only[aun,reduceCtorEq,Option.some.injEq] at h <;> subst h
 ·rw [VL_bool] at hx;subst hx;exact ⟨_,VL_bool.2 rfl,fun w=>rfl⟩
 ·rw [VL_int] at hx;subst hx;exact ⟨_,VL_int.2 rfl,fun w=>rfl⟩
theorem aconv_sound (T:Tab P tt) {c:Cx} {lb:Bid→Option Nat} {s d:Nat} {v r:AV} {x:Value} (hx:VL c lb v x) (h:aconv (tt s) (tt d) v=some r):∃ z,VL c lb r z∧∀ w,(convert s d x).run P w=.ok z w:=by
 cases v <;> simp only[aconv,reduceCtorEq] at h
 case int k n =>
  rw [VL_int] at hx;subst hx
  split at h
  ·rename_i ks k' hs hd
   cases h
   have hus:P.underlying s=some (.int ks):=by have:=(T.good hs (by simp)).kind;rw [hs] at this;exact this
   have hud:P.underlying d=some (.int k'):=by have:=(T.good hd (by simp)).kind;rw [hd] at this;exact this
   refine ⟨_,VL_int.2 rfl,fun w=>?_⟩
   unfold convert
   simp only[Sem.run_bind,run_underlying hus,run_underlying hud,Result.andThen_ok]
   rfl
  ·cases h
 case str l =>
  split at h
  ·rename_i hs hd
   cases h
   have hus:P.underlying s=some .string:=by have:=(T.good hs (by simp)).kind;rw [hs] at this;exact this
   have hud:P.underlying d=some .string:=by have:=(T.good hd (by simp)).kind;rw [hd] at this;exact this
   have hx':VR c (.str l) x:=hx
   simp only[VR] at hx'
   subst hx'
   refine ⟨.string ⟨l.toArray⟩,by simp only[VL,VR],fun w=>?_⟩
   unfold convert
   simp only[Sem.run_bind,run_underlying hus,run_underlying hud,Result.andThen_ok]
   rfl
  ·cases h
theorem aconvB_sound (T:Tab P tt) {c:Cx} {lb:Bid→Option Nat} {s d:Nat} {v r:AV} {x:Value} (hx:VL c lb v x) (h:aconvB tt s d v=some r):∃ z,VL c lb r z∧(convert s d x).run P c.w=.ok z c.w:=by
 unfold aconvB at h
 split at h
 ·rename_i n
  split at h
  ·rename_i e hs hd
   split at h
   ·rename_i he
    cases h
    obtain ⟨hus,_⟩:=slice_elem T hs
    have hud:P.underlying d=some .string:=by have:=(T.good hd (by simp)).kind;rw [hd] at this;exact this
    have hue:P.underlying e=some (.int .u8):=by have:=(T.good he (by simp)).kind;rw [he] at this;exact this
    have hx':VR c (.lst 1 [[.int .u8 n]]) x:=hx
    simp only[VR,VRss,VRs] at hx'
    obtain ⟨a,cap,vs,rfl,hcap,hnil,hrows,hat,v1,_,rfl,⟨v2,_,rfl,rfl,rfl⟩,rfl⟩:=hx'
    rcases hat with hat|⟨b,o,rfl,hi,hr⟩
    ·cases hat
    refine ⟨.string ⟨#[UInt8.ofNat n.toNat]⟩,by simp only[VL,VR],?_⟩
    rw [run_convert_bytes_string c.w s d e _ _ _ hus hue hud]
    have hl:(loadCells (⟨b,o,none⟩:Addr) 1).run P c.w=.ok ([n].map (Value.int .u8)).toArray c.w:=run_loadCells_list c.w ⟨b,o,none⟩ [.int .u8 n] fun j v hj=>by
     have h0:=hr 0 [.int .u8 n] rfl j v hj
     simp only[Nat.zero_mul,Nat.add_zero] at h0
     unfold Addr.add
     by_cases hj0:j=0
     ·subst hj0;simpa using h0
     ·simpa [hj0] using h0
    exact run_bytesToString c.w ⟨b,o,none⟩ 1 cap [n] hl
   ·cases h
  ·cases h
 ·obtain ⟨z,h1,h2⟩:=aconv_sound T hx h
  exact ⟨z,h1,h2 _⟩
theorem pval_sound (T:Tab P tt) {c:Cx} {lb:Bid→Option Nat} {ev:Operand→AV} {ρ:Operand→Value} (hE:∀ x,VL c lb (ev x) (ρ x)) {o:Oper} {v:AV} (h:pval tt ev o.op=some v) :
  ∃ x,VL c lb v x∧(execOp ρ o).run P c.w=.ok (.value x) c.w:=by
 have lift0:∀ (s:Sem Value),(∃ x,VL c lb v x∧s.run P c.w=.ok x c.w)→∃ x,VL c lb v x∧(do pure (Next.value (← s)):Sem Next).run P c.w=.ok (.value x) c.w:=by
  rintro s ⟨x,hx,hr⟩
  exact ⟨x,hx,by simp [Sem.run_bind,hr]⟩
 have lift:∀ (s:Sem Value),(∃ x,VL c lb v x∧∀ w,s.run P w=.ok x w)→∃ x,VL c lb v x∧(do pure (Next.value (← s)):Sem Next).run P c.w=.ok (.value x) c.w:=fun s ⟨x,hx,hr⟩=>lift0 s ⟨x,hx,hr c.w⟩
 unfold execOp
 generalize o.op=op at h ⊢
 cases op <;> simp only[pval,reduceCtorEq] at h
 case move x=>cases h;exact ⟨_,hE x,rfl⟩
 case assign x=>cases h;exact ⟨_,hE x,rfl⟩
 case pick x a b =>
  split at h
  ·rename_i t ht
   cases h
   have hx:=hE x
   rw [ht,VL_bool] at hx
   refine ⟨if t then ρ a else ρ b,?_,?_⟩
   ·cases t
    ·exact hE b
    ·exact hE a
   ·simp only[hx,asBool,Sem.run_bind,Sem.run_pure,Result.andThen_ok]
  ·cases h
 case binOp op t x y _=>exact lift _ (abin_sound T (fun e=>by rwa [Bool.or_eq_true] at e) (hE x) (hE y) h)
 case unOp op t x=>exact lift _ (aun_sound (hE x) h)
 case convert s d x=>exact lift0 _ (aconvB_sound T (hE x) h)
 case fieldAddr t x f=>exact lift _ (afieldAddr_sound T (hE x) h)
 case field t x f=>exact lift _ (afield_sound T (hE x) h)
 case indexAddr t x i=>exact lift _ (aidx_sound T (hE x) (hE i) h)
 case index t x i=>exact lift _ (aindex_sound T (hE x) (hE i) h)
 case extract x i =>
  split at h
  ·rename_i vs hv
   have hx:=hE x
   rw [hv] at hx
   have hx':VR c (.tup vs) (ρ x):=hx
   simp only[VR] at hx'
   obtain ⟨xs,he,hvs⟩:=hx'
   obtain ⟨y,hy,hr⟩:=hvs.get i v h
   refine lift _ ⟨y,hr.vl lb,fun w=>?_⟩
   simp [he,Instr.extract,hy]
  ·cases h
 case build t ps=>exact lift _ (abuild_sound T hE h)
 case makeFunc f first cap =>
  split at h
  ·rename_i hn
   cases h
   rw [Bool.and_eq_true] at hn
   refine lift _ ⟨.func f (first.map ρ) (cap.map ρ),?_,fun w=>rfl⟩
   simp only[VL,VR]
   exact ⟨first.toList.map ρ,cap.toList.map ρ,by rw [← List.map_toArray,← List.map_toArray],VRs.of_list hE _ hn.1,VRs.of_list hE _ hn.2⟩
  ·cases h
end Go.Av
namespace Go.Av
variable {P:Program} {tt:Nat→TI}
structure AS where
 tmp:Nat→AV
 box:Bid→Option (List AV)
 mks:List Nat
 h:AH
def ofVal:Value→AV
 | .bool b=>.bool b
 | .int k n=>.int k n
 | .string s=>.str s.data.toList
 | .pointer none=>.nilp
 | .slice none 0 0=>.nils
 | .nilFunc=>.nilfn
 | .nilIface=>.nilif
 | .map none=>.nilm
 | _=>.undef
theorem ofVal_rel (c:Cx) (v:Value):VR c (ofVal v) v:=by
 unfold ofVal
 split <;> simp [VR]
def AS.ev (s:AS):Operand→AV
 | .tmp t=>s.tmp t
 | .const v=>ofVal v
 | .global g=>.gptr g 0
 | .func f=>.fn (.func f) [] []
structure FRel (c:Cx) (lb:Bid→Option Nat) (s:AS) (n:Nat) (a:Act):Prop where
 size:a.tmps.size=n
 tmps:∀ t,VL c lb (s.tmp t) (a.tmps.getD t undef)
 defers:a.defers=s.mks.map fun r=>{ target:=.collected r,args:=#[] }
 marks:s.mks.Nodup∧∀ r ∈ s.mks,c.w.heap[r]?=some (.deferred (some []))∧¬ c.im r
 box:∀ id cs,s.box id=some cs→∃ b xs ty,lb id=some b∧c.w.heap[b]?=some (.cells (List.toArray xs) ty (0,0))∧¬ RW c s.h b∧¬ c.im b∧VRs c cs xs∧cs.all AV.cell=true
 lbclk:∀ id b,lb id=some b→id.1 < s.h.clk
 lbinj:∀ id id' b,lb id=some b→lb id'=some b→id=id'
 lbsize:∀ id b,lb id=some b→b < c.w.heap.size
structure SR (c0:Cx) (h0:AH) (c:Cx) (lb:Bid→Option Nat) (s:AS) (n:Nat) (a:Act):Prop where
 hr:HRel c s.h
 fr:FRel c lb s n a
 evo:Evo c0 h0 c s.h
 new:∀ id b,lb id=some b→c0.w.heap.size≤b
 dn:∀ b,c.dom b→c0.dom b ∨ h0.clk≤b.1
 mnew:∀ m ∈ s.mks,c0.w.heap.size≤m
theorem FRel.ev {c:Cx} {lb:Bid→Option Nat} {s:AS} {n:Nat} {a:Act} (F:FRel c lb s n a) (x:Operand):VL c lb (s.ev x) (a.eval x):=by
 cases x with
 | tmp t=>exact F.tmps t
 | const v=>exact (ofVal_rel c v).vl lb
 | global g=>exact rfl
 | func f=>simp only[AS.ev,Act.eval,VL,VR];exact ⟨[],[],rfl,VRs.nil,VRs.nil⟩
def AS.set (s:AS) (dst:Option Tmp) (v:AV):AS:=match dst with
 | some d=>{ s with tmp:=upd s.tmp d v }
 | none=>s
@[simp] theorem AS.set_h (s:AS) (d:Option Tmp) (v:AV):(s.set d v).h=s.h:=by cases d <;> rfl
@[simp] theorem AS.set_mks (s:AS) (d:Option Tmp) (v:AV):(s.set d v).mks=s.mks:=by cases d <;> rfl
theorem put_size (a:Act) (d:Option Tmp) (x:Value):(a.put d x).tmps.size=a.tmps.size:=by cases d <;> simp [Act.put]
theorem FRel.put {c:Cx} {lb:Bid→Option Nat} {s:AS} {n:Nat} {a:Act} (F:FRel c lb s n a) {dst:Option Tmp} {v:AV} {x:Value} (hv:VL c lb v x) (hd:∀ d,dst=some d→d < n) :
  FRel c lb (s.set dst v) n (a.put dst x):=by
 cases dst with
 | none=>exact F
 | some d =>
  have hdn:=hd d rfl
  refine ⟨by rw [put_size];exact F.size,fun t=>?_,F.defers,F.marks,F.box,F.lbclk,F.lbinj,F.lbsize⟩
  simp only[AS.set,Act.put,upd_apply]
  by_cases ht:t=d
  ·subst ht
   have:t < a.tmps.size:=by rw [F.size];exact hdn
   simp only[if_true]
   rw [show (a.tmps.setIfInBounds t x).getD t undef=x by simp [Array.getD,this]]
   exact hv
  ·rw [if_neg ht,show (a.tmps.setIfInBounds d x).getD t undef=a.tmps.getD t undef by simp [Array.getD_eq_getD_getElem?,Array.getElem?_setIfInBounds,Ne.symm ht]]
   exact F.tmps t
theorem SR.put {c0:Cx} {h0:AH} {c:Cx} {lb:Bid→Option Nat} {s:AS} {n:Nat} {a:Act} (S:SR c0 h0 c lb s n a) {dst:Option Tmp} {v:AV} {x:Value} (hv:VL c lb v x) (hd:∀ d,dst=some d→d < n) :
  SR c0 h0 c lb (s.set dst v) n (a.put dst x) :=
 ⟨by rw [AS.set_h];exact S.hr,S.fr.put hv hd,by rw [AS.set_h];exact S.evo,S.new,S.dn,by rw [AS.set_mks];exact S.mnew⟩
def AS.row (s:AS):AV→Option (List AV × Nat)
 | .ptr b i j=>match s.h.at_ b with
  | some k=>if i < k.es.length then some (k.es.getD i [],j) else none
  | none=>none
 | .lptr t j=>match s.box t with
  | some cs=>some (cs,j)
  | none=>none
 | .iptr cs j=>some (cs,j)
 | .gptr g j=>match s.h.gl g with
  | some cs=>some (cs,j)
  | none=>none
 | .aptr b _ j=>match s.h.at_ b with
  | some k=>if k.esz=1 then some (k.es.flatten,j) else none
  | none=>none
 | _=>none
def aload (ti:TI) (s:AS) (p:AV):Option AV:=match s.row p with
 | some (r,j)=>if ti.knows then apart ti.k.agg ti.size j r else none
 | none=>none
theorem rangeAt_cells {w:World} {b:Nat} {xs:List Value} {ty:TypeId} {fr:Nat × Nat} (h:w.heap[b]?=some (.cells xs.toArray ty fr)):w.rangeAt b 0 xs:=by
 intro j v hv
 rw [Nat.zero_add,cell_of_row w b j xs.toArray ty fr h]
 simpa using hv
theorem row_sound {c:Cx} {lb:Bid→Option Nat} {s:AS} {n:Nat} {a:Act} (H:HRel c s.h) (F:FRel c lb s n a) {p:AV} {x:Value} (hx:VL c lb p x) {r:List AV} {j:Nat} (h:s.row p=some (r,j)) :
  ∃ b o xs,x=.pointer (some ⟨b,o+j,none⟩)∧c.w.rangeAt b o xs∧VRs c r xs∧r.all AV.cell=true:=by
 cases p <;> simp only[AS.row,reduceCtorEq] at h
 case ptr id i jj =>
  split at h
  ·rename_i k hk
   split at h
   ·rename_i hi
    simp only[Option.some.injEq,Prod.mk.injEq] at h
    obtain ⟨rfl,rfl⟩:=h
    have hx':VR c (.ptr id i jj) x:=hx
    simp only[VR] at hx'
    obtain ⟨hd,rfl⟩:=hx'
    obtain ⟨_,h2,h3,_,_,vs,h7,h8⟩:=H.blk id k hk
    obtain ⟨row,hrow,hv⟩:=h7.getD_nil hi
    refine ⟨_,_,row,rfl,by rw [← h2];exact h8 i row hrow,hv,?_⟩
    rw [List.getD_eq_getElem?_getD,List.getElem?_eq_getElem hi]
    exact (h3 _ (List.getElem_mem hi)).2
   ·cases h
  ·cases h
 case lptr t jj =>
  split at h
  ·rename_i cs hcs
   simp only[Option.some.injEq,Prod.mk.injEq] at h
   obtain ⟨rfl,rfl⟩:=h
   obtain ⟨b,hb,rfl⟩:=hx
   obtain ⟨b',xs,ty,hb',hw,_,_,hv,hc⟩:=F.box t cs hcs
   rw [hb] at hb'
   cases hb'
   exact ⟨b,0,xs,by rw [Nat.zero_add],rangeAt_cells hw,hv,hc⟩
  ·cases h
 case iptr cs jj =>
  simp only[Option.some.injEq,Prod.mk.injEq] at h
  obtain ⟨rfl,rfl⟩:=h
  have hx':VR c (.iptr cs jj) x:=hx
  simp only[VR] at hx'
  obtain ⟨b,o,xs,rfl,hi,hr,hcs,hv⟩:=hx'
  exact ⟨b,o,xs,rfl,hr,hv,hcs⟩
 case gptr g jj =>
  split at h
  ·rename_i cs hcs
   simp only[Option.some.injEq,Prod.mk.injEq] at h
   obtain ⟨rfl,rfl⟩:=h
   have hx':VR c (.gptr g jj) x:=hx
   simp only[VR] at hx'
   obtain ⟨_,h2,xs,h3,h4,_⟩:=H.gl g cs hcs
   exact ⟨g,0,xs,by rw [Nat.zero_add];exact hx',h3,h4,h2⟩
  ·cases h
 case aptr b m jj =>
  split at h
  ·rename_i k hk
   split at h
   ·rename_i he
    simp only[Option.some.injEq,Prod.mk.injEq] at h
    obtain ⟨rfl,rfl⟩:=h
    have hx':VR c (.aptr b m jj) x:=hx
    simp only[VR] at hx'
    obtain ⟨_,_,_,hx'⟩:=hx'
    obtain ⟨xs,h1,h2,h3⟩:=(H.blk b k hk).flat he
    exact ⟨_,0,xs,by rw [Nat.zero_add];exact hx',h1,h2,h3⟩
   ·cases h
  ·cases h
theorem load_sound (T:Tab P tt) {c:Cx} {lb:Bid→Option Nat} {s:AS} {n:Nat} {a:Act} (H:HRel c s.h) (F:FRel c lb s n a) {t:Nat} {p v:AV} {x:Value} (hx:VL c lb p x) (h:aload (tt t) s p=some v) :
  ∃ z,VR c v z∧(Instr.loadAt t x).run P c.w=.ok z c.w:=by
 unfold aload at h
 split at h
 ·rename_i r j hr
  split at h
  ·rename_i hk
   obtain ⟨b,o,xs,rfl,hat,hv,hc⟩:=row_sound H F hx hr
   obtain ⟨i,hi,hs,_⟩:=info_of T hk
   obtain ⟨d,hd,ha⟩:=agg_of T hk
   unfold apart at h
   split at h
   ·rename_i hag
    split at h
    ·rename_i hle
     cases h
     refine ⟨.agg ((xs.drop j).take (tt t).size).toArray,?_,?_⟩
     ·simp only[VR]
      refine ⟨_,rfl,?_,(hv.drop j).take _⟩
      rw [List.all_eq_true] at hc ⊢
      exact fun y hy=>hc y (List.mem_of_mem_drop (List.mem_of_mem_take hy))
     ·have hl:((xs.drop j).take (tt t).size).length=(tt t).size:=by rw [List.length_take,List.length_drop,hv.length];omega
      refine run_loadAt_mid c.w b (o+j) t _ d (fun m y hy=>?_) hd (by rw [ha,hag]) (by rw [hi,hl];simp [hs])
      rw [List.getElem?_take] at hy
      split at hy
      ·rw [List.getElem?_drop] at hy
       have:=hat (j+m) y hy
       rwa [← Nat.add_assoc] at this
      ·cases hy
    ·cases h
   ·rename_i hag
    obtain ⟨y,hy,hr'⟩:=hv.get j v h
    refine ⟨y,hr',?_⟩
    have hcell:=hat j y hy
    have hagg:=run_isAgg' (P:=P) (w:=c.w) hd
    rw [ha] at hagg
    have hf:(tt t).k.agg=false:=by simpa using hag
    rw [hf] at hagg
    have hload:(load ⟨b,o+j,none⟩:Sem Value).run P c.w=.ok y c.w:=by simp [load,Sem.run,hcell]
    simp [Instr.loadAt,Instr.sureAddr,loadVar,Sem.run_bind,hagg,hcell]
  ·cases h
 ·cases h
theorem RW.notDeferred {c:Cx} {h:AH} (H:HRel c h) {r:Nat} {d:Option (List Deferred)} (hd:c.w.heap[r]?=some (.deferred d)):¬ RW c h r:=by
 rintro (⟨b,k,hb,rfl⟩|⟨l,hl⟩)
 ·obtain ⟨_,_,_,_,⟨cur,ty,hc,_⟩,_⟩:=H.blk b k hb
  rw [hc] at hd;cases hd
 ·exact (H.lp r l hl).notDeferred hd
theorem FRel.evo {c:Cx} {lb:Bid→Option Nat} {s:AS} {n:Nat} {a:Act} (F:FRel c lb s n a) (H:HRel c s.h) {c':Cx} {h':AH} (E:Evo c s.h c' h'):FRel c' lb { s with h:=h' } n a where
 size:=F.size
 tmps:=fun t=>(F.tmps t).mono E.le (fun _ _ h=>h)
 defers:=F.defers
 marks:=⟨F.marks.1,fun r hr=>by
  have h:=(F.marks.2 r hr).1
  have hlt:=(Array.getElem?_eq_some_iff.1 h).1
  exact ⟨(E.keep r hlt (RW.notDeferred H h)).trans h,fun hi=>(E.imnew r hi).elim (F.marks.2 r hr).2 (fun h'=>h'.elim (fun h'=>absurd hlt (Nat.not_lt.2 h')) (RW.notDeferred H h))⟩⟩
 box:=fun id cs hb=>by
  obtain ⟨b,xs,ty,h1,h2,h3,h4,h5,h6⟩:=F.box id cs hb
  have hlt:=(Array.getElem?_eq_some_iff.1 h2).1
  exact ⟨b,xs,ty,h1,(E.keep b hlt h3).trans h2,fun hr=>(E.rwnew b hr).elim (fun h=>absurd hlt (Nat.not_lt.2 h)) h3,
   fun hi=>(E.imnew b hi).elim h4 (fun h=>h.elim (fun h=>absurd hlt (Nat.not_lt.2 h)) h3),VRs.mono E.le _ _ h5,h6⟩
 lbclk:=fun id b hb=>Nat.lt_of_lt_of_le (F.lbclk id b hb) E.clk
 lbinj:=F.lbinj
 lbsize:=fun id b hb=>Nat.lt_of_lt_of_le (F.lbsize id b hb) E.size
theorem SR.go {c0:Cx} {h0:AH} {c:Cx} {lb:Bid→Option Nat} {s:AS} {n:Nat} {a:Act} (S:SR c0 h0 c lb s n a) {c':Cx} {h':AH} (H':HRel c' h') (E:Evo c s.h c' h') (hd:∀ b,c'.dom b→c.dom b ∨ h0.clk≤b.1) :
  SR c0 h0 c' lb { s with h:=h' } n a:=⟨H',S.fr.evo S.hr E,S.evo.trans E,S.new,fun b hb=>(hd b hb).elim (S.dn b) .inr,S.mnew⟩
def aput (ti:TI) (s:AS) (p v:AV):Option AS :=
 if ti.knows=true∧noL v=true∧v.cells.length=ti.size∧v.cells.all AV.cell=true then
  match p with
  | .ptr b i j=>match s.h.at_ b with
   | some k=>if i < k.es.length then (if j+ti.size≤(k.es.getD i []).length then
     some { s with h:=s.h.put b (some ⟨k.esz,k.es.set i ((k.es.getD i []).take j ++ v.cells ++ (k.es.getD i []).drop (j+ti.size))⟩) } else none) else none
   | none=>none
  | .lptr t j=>match s.box t with
   | some r=>if j+ti.size≤r.length then some { s with box:=upd s.box t (some (r.take j ++ v.cells ++ r.drop (j+ti.size))) } else none
   | none=>none
  | .aptr b m j=>match s.h.at_ b with
   | some k=>if k.esz=1∧j=0∧ti.size=m∧k.es.length=m then some { s with h:=s.h.put b (some ⟨1,v.cells.map fun x=>[x]⟩) } else none
   | none=>none
  | _=>none
 else none
theorem all_patch {r u:List AV} {j m:Nat} (hr:r.all AV.cell=true) (hu:u.all AV.cell=true):(r.take j ++ u ++ r.drop m).all AV.cell=true:=by
 rw [List.all_append,List.all_append,hu,Bool.and_true,Bool.and_eq_true]
 rw [List.all_eq_true] at hr
 exact ⟨List.all_eq_true.2 fun y hy=>hr y (List.mem_of_mem_take hy),List.all_eq_true.2 fun y hy=>hr y (List.mem_of_mem_drop hy)⟩
theorem run_storeAt_row {w:World} {b o:Nat} {t:TypeId} {cur:Array Value} {ty:TypeId} {y:Value} {i:TypeInfo} (hw:w.heap[b]?=some (.cells cur ty (0,0)))
  (hi:P.info? t=some i) (hs:y.cells.size=i.size) (hle:o+y.cells.size≤cur.size) (h1:∀ v ∈ y.cells.toList,v.oneCell'=true) :
  (Instr.storeAt t (.pointer (some ⟨b,o,none⟩)) y).run P w=.ok () (w.setRow b (cur.toList.take o ++ y.cells.toList ++ cur.toList.drop (o+y.cells.size)).toArray):=by
 have hst:=run_storeCells_at (P:=P) b o ty y.cells.toList 0 cur w hw (by simpa using hle) h1
 simp only[Nat.add_zero,Array.length_toList] at hst
 simp [Instr.storeAt,Instr.sureAddr,storeVar,Sem.run_bind,run_sizeOf' hi,hs,hst]
theorem setRow_size' (w:World) (g:Nat) (cs:Array Value):(w.setRow g cs).heap.size=w.heap.size:=by simp [World.setRow]
theorem patch_cells {cur:List Value} {vs:List (List Value)} {e i j:Nat} {row ys:List Value} (hlen:∀ r ∈ vs,r.length=e) (hcur:∀ (k:Nat) r,vs[k]?=some r→∀ (m:Nat) v,r[m]?=some v→cur[k * e+m]?=some v)
  (hrow:vs[i]?=some row) (hj:j+ys.length≤e) :
  ∀ (k:Nat) r,(vs.set i (row.take j ++ ys ++ row.drop (j+ys.length)))[k]?=some r→∀ (m:Nat) v,r[m]?=some v →
   (cur.take (i * e+j) ++ ys ++ cur.drop (i * e+j+ys.length))[k * e+m]?=some v:=by
 intro k r hk m v hm
 have hrl:row.length=e:=hlen row (List.mem_of_getElem? hrow)
 have hcl:e ≠ 0→i * e+e≤cur.length:=by
  intro he
  have hlast:e - 1 < row.length:=by omega
  have:=hcur i row hrow (e - 1) _ (List.getElem?_eq_getElem hlast)
  have:=(List.getElem?_eq_some_iff.1 this).1
  omega
 by_cases hki:i=k
 ·subst hki
  have hil:i < vs.length:=(List.getElem?_eq_some_iff.1 hrow).1
  simp only[List.getElem?_set_self hil,Option.some.injEq] at hk
  subst hk
  by_cases he:e=0
  ·have h0:ys.length=0:=by omega
   have h1:row=[]:=List.eq_nil_of_length_eq_zero (by omega)
   have h2:ys=[]:=List.eq_nil_of_length_eq_zero h0
   subst h1 h2
   simp at hm
  have hcl':=hcl he
  have hl1:(cur.take (i * e+j)).length=i * e+j:=by rw [List.length_take];omega
  have hl2:(row.take j).length=j:=by rw [List.length_take];omega
  rcases Nat.lt_or_ge m j with h1|h1
  ·rw [List.append_assoc,List.getElem?_append_left (by omega),List.getElem?_take,if_pos (by omega)]
   rw [List.append_assoc,List.getElem?_append_left (by omega),List.getElem?_take,if_pos h1] at hm
   exact hcur i row hrow m v hm
  ·rcases Nat.lt_or_ge m (j+ys.length) with h2|h2
   ·rw [List.append_assoc,List.getElem?_append_right (by omega),List.getElem?_append_left (by omega)]
    rw [List.append_assoc,List.getElem?_append_right (by omega),List.getElem?_append_left (by omega)] at hm
    rw [hl1];rw [hl2] at hm
    rw [← hm];congr 1;omega
   ·rw [List.append_assoc,List.getElem?_append_right (by omega),List.getElem?_append_right (by omega),List.getElem?_drop]
    rw [List.append_assoc,List.getElem?_append_right (by omega),List.getElem?_append_right (by omega),List.getElem?_drop] at hm
    rw [hl1];rw [hl2] at hm
    rw [← hcur i row hrow m v (by rw [← hm];congr 1;omega)]
    congr 1;omega
 ·rw [List.getElem?_set_ne hki] at hk
  have hrl':r.length=e:=hlen r (List.mem_of_getElem? hk)
  have hml:m < e:=by rw [← hrl'];exact (List.getElem?_eq_some_iff.1 hm).1
  have hc:=hcur k r hk m v hm
  have hcl':=hcl (by omega)
  have hl1:(cur.take (i * e+j)).length=i * e+j:=by rw [List.length_take];omega
  rcases Nat.lt_or_ge k i with h1|h1
  ·have:(k+1) * e≤i * e:=Nat.mul_le_mul_right e h1
   rw [Nat.add_mul,Nat.one_mul] at this
   rw [List.append_assoc,List.getElem?_append_left (by omega),List.getElem?_take,if_pos (by omega)]
   exact hc
  ·have hlt:i < k:=by omega
   have:(i+1) * e≤k * e:=Nat.mul_le_mul_right e hlt
   rw [Nat.add_mul,Nat.one_mul] at this
   rw [List.append_assoc,List.getElem?_append_right (by omega),List.getElem?_append_right (by omega),List.getElem?_drop,hl1,← hc]
   congr 1;omega
theorem VRss.set {c:Cx} {vs:List (List AV)} {xs:List (List Value)} (h:VRss c vs xs) (n:Nat) {v:List AV} {x:List Value} (hv:VRs c v x):VRss c (vs.set n v) (xs.set n x) :=
 VRss.of_get (by simp [h.length]) (fun i u y hu hy=>by
  rw [List.getElem?_set] at hu hy
  by_cases hni:n=i
  ·subst hni
   have hl:=h.length
   by_cases hlt:n < vs.length
   ·have hlt':n < xs.length:=by omega
    simp [hlt] at hu;simp [hlt'] at hy;subst hu;subst hy;exact hv
   ·simp [hlt] at hu
  ·simp [hni] at hu hy
   obtain ⟨x',hx',hr⟩:=h.get i u hu
   rw [hy] at hx';cases hx';exact hr)
theorem BRel.cur {c:Cx} {b:Bid} {k:Blk} (h:BRel c b k):∃ cur ty vs,c.w.heap[(c.fm b).blk]?=some (.cells cur ty (0,0))∧cur.size=(c.fm b).tot∧VRss c k.es vs∧(∀ r ∈ vs,r.length=k.esz) ∧
  ∀ (i:Nat) r,vs[i]?=some r→∀ (m:Nat) v,r[m]?=some v→cur.toList[i * k.esz+m]?=some v:=by
 obtain ⟨_,_,h3,_,⟨cur,ty,h5,h6⟩,vs,h7,h8⟩:=h
 refine ⟨cur,ty,vs,h5,h6,h7,?_,?_⟩
 ·intro r hr
  obtain ⟨i,hi⟩:=List.getElem?_of_mem hr
  have hl:=h7.length
  have hil:i < k.es.length:=by rw [← hl];exact (List.getElem?_eq_some_iff.1 hi).1
  obtain ⟨r',hr',hv⟩:=h7.get i _ (List.getElem?_eq_getElem hil)
  rw [hi] at hr';cases hr'
  rw [hv.length]
  exact (h3 _ (List.getElem_mem hil)).1
 ·intro i r hr m v hm
  have:=h8 i r hr m v hm
  rw [cell_of_row _ _ _ cur ty (0,0) h5] at this
  simpa using this
end Go.Av
namespace Go.Av
variable {P:Program} {tt:Nat→TI}
theorem SR.store (T:Tab P tt) {c0:Cx} {h0:AH} {c:Cx} {lb:Bid→Option Nat} {s:AS} {n:Nat} {a:Act} (S:SR c0 h0 c lb s n a) {t:Nat} {p v:AV} {x y:Value} (hx:VL c lb p x) (hy:VL c lb v y)
  {s':AS} (h:aput (tt t) s p v=some s'):∃ c',(Instr.storeAt t x y).run P c.w=.ok () c'.w∧SR c0 h0 c' lb s' n a∧c'.dom=c.dom∧s'.h.clk=s.h.clk:=by
 unfold aput at h
 split at h
 ·rename_i hcond
  obtain ⟨hk,hn,hl,hc⟩:=hcond
  obtain ⟨i,hi,hs,_⟩:=info_of T hk
  have hvy:=(hy.vr hn).cells hc
  have hyl:y.cells.size=(tt t).size:=by rw [← hl,← hvy.length];simp
  have hone:∀ u ∈ y.cells.toList,u.oneCell'=true:=hvy.oneCells hc
  cases p <;> simp only[reduceCtorEq] at h
  case ptr b ii j =>
   split at h
   ·rename_i k hb
    split at h
    ·rename_i hlt
     split at h
     ·rename_i hle
      cases h
      have hx':VR c (.ptr b ii j) x:=hx
      simp only[VR] at hx'
      obtain ⟨hd,rfl⟩:=hx'
      obtain ⟨cur,ty,vs,hcur,hsz,hvs,hlen,hcells⟩:=(S.hr.blk b k hb).cur
      obtain ⟨_,hesz,hrows,hfit,_,_⟩:=S.hr.blk b k hb
      obtain ⟨row,hrow,hvr⟩:=hvs.getD_nil hlt
      have hrl:row.length=k.esz:=hlen row (List.mem_of_getElem? hrow)
      have hrl':(k.es.getD ii []).length=k.esz:=by rw [← hvr.length,hrl]
      rw [hrl'] at hle
      have hmul:(ii+1) * k.esz≤k.es.length * k.esz:=Nat.mul_le_mul_right _ hlt
      rw [Nat.add_mul,Nat.one_mul] at hmul
      have hrun:=run_storeAt_row (P:=P) (w:=c.w) (b:=(c.fm b).blk) (o:=ii * k.esz+j) (t:=t) (y:=y) hcur hi (by rw [hyl,hs]) (by rw [hyl,hsz];omega) hone
      have hp:=patch_cells (cur:=cur.toList) (ys:=y.cells.toList) (i:=ii) (j:=j) hlen hcells hrow (by simp only[Array.length_toList];omega)
      simp only[Array.length_toList] at hp
      obtain ⟨H',E⟩:=S.hr.write (b:=b) (k:=k) hb (w':=c.w.setRow (c.fm b).blk (cur.toList.take (ii * k.esz+j) ++ y.cells.toList ++ cur.toList.drop (ii * k.esz+j+y.cells.size)).toArray) _ ty
       (setRow_heap _ _ _ _ _ _ hcur) (by simp;omega) (fun i' hi'=>setRow_other _ _ _ _ hi') (setRow_size' _ _ _) rfl rfl rfl
       ⟨k.esz,k.es.set ii ((k.es.getD ii []).take j ++ v.cells ++ (k.es.getD ii []).drop (j+(tt t).size))⟩ rfl
       (by
        intro r hr
        rcases List.mem_or_eq_of_mem_set hr with hr|rfl
        ·exact hrows r hr
        ·refine ⟨?_,all_patch ?_ hc⟩
         ·simp only[List.length_append,List.length_take,List.length_drop,hrl'];omega
         ·rw [List.getD_eq_getElem?_getD,List.getElem?_eq_getElem hlt]
          exact (hrows _ (List.getElem_mem hlt)).2)
       (by simpa using hfit) (vs.set ii (row.take j ++ y.cells.toList ++ row.drop (j+y.cells.size)))
       (hvs.set ii (by rw [hyl];exact ((hvr.take j).append hvy).append (hvr.drop _)))
       (fun i' r hr m u hu=>by simpa using hp i' r hr m u hu)
      refine ⟨_,?_,S.go H' E (fun _ h=>.inl h),rfl,rfl⟩
      rw [← hesz]
      exact hrun
     ·cases h
    ·cases h
   ·cases h
  case aptr b m j =>
   split at h
   ·rename_i k hb
    split at h
    ·rename_i hle
     cases h
     obtain ⟨he,rfl,hm,hkl⟩:=hle
     have hx':VR c (.aptr b m 0) x:=hx
     simp only[VR] at hx'
     obtain ⟨hd,_,_,rfl⟩:=hx'
     obtain ⟨cur,ty,vs,hcur,hsz,hvs,hlen,hcells⟩:=(S.hr.blk b k hb).cur
     obtain ⟨_,hesz,hrows,hfit,_,_⟩:=S.hr.blk b k hb
     rw [he,Nat.mul_one] at hfit
     have hys:y.cells.size=k.es.length:=by rw [hyl,hm,hkl]
     have hrun:=run_storeAt_row (P:=P) (w:=c.w) (b:=(c.fm b).blk) (o:=0) (t:=t) (y:=y) hcur hi (by rw [hyl,hs]) (by rw [hys,hsz];omega) hone
     have hvl:v.cells.length=k.es.length:=by rw [hl,hm,hkl]
     have hvss:VRss c (v.cells.map fun x=>[x]) (y.cells.toList.map fun x=>[x]):=by
      generalize v.cells=cs at hvy
      generalize y.cells.toList=ys at hvy
      clear hrun
      induction cs generalizing ys with
      | nil=>simp only[VRs] at hvy;subst hvy;exact (by simp [VRss])
      | cons u cs ih =>
       simp only[VRs] at hvy
       obtain ⟨z,zs,rfl,h1,h2⟩:=hvy
       simp only[List.map_cons,VRss]
       exact ⟨_,_,rfl,VRs.cons h1 VRs.nil,ih zs h2⟩
     obtain ⟨H',E⟩:=S.hr.write (b:=b) (k:=k) hb (w':=c.w.setRow (c.fm b).blk (cur.toList.take 0 ++ y.cells.toList ++ cur.toList.drop (0+y.cells.size)).toArray) _ ty
      (setRow_heap _ _ _ _ _ _ hcur) (by simp;omega) (fun i' hi'=>setRow_other _ _ _ _ hi') (setRow_size' _ _ _) rfl rfl rfl
      ⟨1,v.cells.map fun x=>[x]⟩ he.symm
      (by
       intro r hr
       obtain ⟨u,hu,rfl⟩:=List.mem_map.1 hr
       exact ⟨rfl,by simp [List.all_eq_true.1 hc u hu]⟩)
      (by simp only[List.length_map,Nat.mul_one,hvl];exact hfit) _ hvss
      (fun i' r hr m' u hu=>by
       rw [List.getElem?_map] at hr
       cases hyi:y.cells.toList[i']? with
       | none=>rw [hyi] at hr;cases hr
       | some u' =>
        rw [hyi] at hr
        cases hr
        cases m' with
        | zero =>
         simp only[List.getElem?_cons_zero,Option.some.injEq] at hu
         subst hu
         have hlt:=(List.getElem?_eq_some_iff.1 hyi).1
         simp only[List.take_zero,List.nil_append,Nat.mul_one,Nat.add_zero,List.getElem?_toArray]
         rw [List.getElem?_append_left hlt]
         exact hyi
        | succ m'=>simp at hu)
     exact ⟨_,hrun,S.go H' E (fun _ h=>.inl h),rfl,rfl⟩
    ·cases h
   ·cases h
  case lptr id j =>
   split at h
   ·rename_i r hr
    split at h
    ·rename_i hle
     cases h
     obtain ⟨b,hb,rfl⟩:=hx
     obtain ⟨b',xs,ty,hb',hw,hrw,him,hv,hcs⟩:=S.fr.box id r hr
     rw [hb] at hb'
     cases hb'
     have hxl:=hv.length
     have hrun:=run_storeAt_row (P:=P) (w:=c.w) (b:=b) (o:=j) (t:=t) (y:=y) hw hi (by rw [hyl,hs]) (by simp;omega) hone
     have hlt:=S.fr.lbsize id b hb
     let ys:=xs.take j ++ y.cells.toList ++ xs.drop (j+y.cells.size)
     have hw':(c.w.setRow b ys.toArray).heap[b]?=some (.cells ys.toArray ty (0,0)):=setRow_heap _ _ _ _ _ _ hw
     have hold:∀ i',i' ≠ b→(c.w.setRow b ys.toArray).heap[i']?=c.w.heap[i']?:=fun i' hi'=>setRow_other _ _ _ _ hi'
     have hsz:(c.w.setRow b ys.toArray).heap.size=c.w.heap.size:=setRow_size' _ _ _
     have hle':c.Le { c with w:=c.w.setRow b ys.toArray }:=⟨fun _ h=>h,fun _ _=>rfl,fun _ h=>h,fun i' hi'=>hold i' (fun e=>him (e ▸ hi'))⟩
     refine ⟨{ c with w:=c.w.setRow b ys.toArray },hrun,⟨S.hr.world (by rw [hsz];exact Nat.le_refl _) (fun i' hi'=>hold i' ?_),?_,?_,S.new,S.dn,S.mnew⟩,rfl,rfl⟩
     ·rintro rfl
      exact hi'.elim hrw him
     ·refine ⟨S.fr.size,fun t'=>(S.fr.tmps t').mono hle' (fun _ _ h=>h),S.fr.defers,⟨S.fr.marks.1,fun m hm=>?_⟩,?_,S.fr.lbclk,S.fr.lbinj,fun id' b' h'=>by show b' < (c.w.setRow b ys.toArray).heap.size;rw [hsz];exact S.fr.lbsize id' b' h'⟩
      ·refine ⟨(hold m ?_).trans (S.fr.marks.2 m hm).1,(S.fr.marks.2 m hm).2⟩
       rintro rfl
       have:=(S.fr.marks.2 m hm).1
       rw [hw] at this
       cases this
      ·intro id' cs' h'
       simp only[upd_apply] at h'
       split at h'
       ·rename_i e
        subst e
        cases h'
        exact ⟨b,ys,ty,hb,hw',hrw,him,VRs.mono hle' _ _ (by show VRs c _ (xs.take j ++ y.cells.toList ++ xs.drop (j+y.cells.size));rw [hyl];exact ((hv.take j).append hvy).append (hv.drop _)),all_patch hcs hc⟩
       ·rename_i e
        obtain ⟨b2,xs2,ty2,g1,g2,g3,g4,g5,g6⟩:=S.fr.box id' cs' h'
        have hne:b2 ≠ b:=by rintro rfl;exact e (S.fr.lbinj id' id b2 g1 hb)
        exact ⟨b2,xs2,ty2,g1,(hold b2 hne).trans g2,g3,g4,VRs.mono hle' _ _ g5,g6⟩
     ·have hnew:=S.new id b hb
      exact ⟨S.evo.le.trans hle',S.evo.clk,by show c0.w.heap.size≤(c.w.setRow b ys.toArray).heap.size;rw [hsz];exact S.evo.size,
       fun i' hi' hn'=>(hold i' (by omega)).trans (S.evo.keep i' hi' hn'),S.evo.imnew,S.evo.rwnew,S.evo.stay,S.evo.os,S.evo.out,S.evo.tape,S.evo.gl⟩
    ·cases h
   ·cases h
 ·cases h
def AS.newLoc (s:AS) (id:Bid) (cs:List AV):AS:={ s with box:=upd s.box id (some cs) }
def AS.newHeap (s:AS) (id:Bid) (e:Nat) (es:List (List AV)):AS:={ s with h:=s.h.put id (some ⟨e,es⟩) }
theorem SR.newHeap {c0:Cx} {h0:AH} {c:Cx} {lb:Bid→Option Nat} {s:AS} {n:Nat} {a:Act} (S:SR c0 h0 c lb s n a) {id:Bid} (hid:¬ c.dom id) (hlt:id.1 < s.h.clk) (hge:h0.clk≤id.1) (cur:Array Value) (ty:TypeId)
  {e:Nat} {es:List (List AV)} (hk:rowsOk e es) {vs:List (List Value)} (hv:VRss c es vs) (hl:es.length * e≤cur.size) (hc:∀ (i:Nat) row,vs[i]?=some row→∀ (j:Nat) v,row[j]?=some v→cur[i * e+j]?=some v) :
  SR c0 h0 (c.alloc id cur ty e) lb (s.newHeap id e es) n a:=by
 obtain ⟨H',E⟩:=S.hr.alloc hid hlt cur ty ⟨e,es⟩ hk vs hv hl hc
 exact S.go H' E (by rintro b (rfl|hb);exact .inr hge;exact .inl hb)
theorem SR.newLoc {c0:Cx} {h0:AH} {c:Cx} {lb:Bid→Option Nat} {s:AS} {n:Nat} {a:Act} (S:SR c0 h0 c lb s n a) {id:Bid} (hid:lb id=none) (hlt:id.1 < s.h.clk) (ty:TypeId)
  {cs:List AV} {xs:List Value} (hcs:cs.all AV.cell=true) (hv:VRs c cs xs) :
  SR c0 h0 { c with w:=c.w.alloc (.cells xs.toArray ty) } (upd lb id (some c.w.heap.size)) (s.newLoc id cs) n a:=by
 have hold:∀ b,b < c.w.heap.size→(c.w.alloc (.cells xs.toArray ty)).heap[b]?=c.w.heap[b]?:=fun b hb=>heap_alloc_old' c.w _ b hb
 have hnew:(c.w.alloc (.cells xs.toArray ty)).heap[c.w.heap.size]?=some (.cells xs.toArray ty (0,0)):=heap_alloc_new c.w _
 have hH:HRel { c with w:=c.w.alloc (.cells xs.toArray ty) } s.h:=S.hr.world (by simp) (fun b hb=>hold b (hb.elim (RW.lt S.hr) (S.hr.imlt b)))
 have hE:Evo c s.h { c with w:=c.w.alloc (.cells xs.toArray ty) } s.h:=Evo.world S.hr (by simp) hold rfl rfl rfl
 have hF:=S.fr.evo S.hr hE
 have hlb:∀ t b,lb t=some b→upd lb id (some c.w.heap.size) t=some b:=fun t b ht=>by rw [upd_ne _ _ (by rintro rfl;rw [hid] at ht;cases ht)];exact ht
 refine ⟨hH,⟨hF.size,fun t=>(hF.tmps t).mono (Cx.Le.refl _) hlb,hF.defers,hF.marks,?_,?_,?_,?_⟩,S.evo.trans hE,?_,S.dn,S.mnew⟩
 ·intro i cs' h'
  simp only[AS.newLoc,upd_apply] at h'
  split at h'
  ·rename_i e
   subst e
   cases h'
   refine ⟨c.w.heap.size,xs,ty,by simp,hnew,fun hr=>?_,fun hi=>absurd (S.hr.imlt _ hi) (Nat.lt_irrefl _),VRs.mono hE.le _ _ hv,hcs⟩
   have:RW c s.h c.w.heap.size:=hr
   exact absurd (RW.lt S.hr this) (Nat.lt_irrefl _)
  ·obtain ⟨b,xs',ty',g1,g2⟩:=hF.box i cs' h'
   exact ⟨b,xs',ty',hlb i b g1,g2⟩
 ·intro i b h'
  simp only[upd_apply] at h'
  split at h'
  ·rename_i e;subst e;exact hlt
  ·exact S.fr.lbclk i b h'
 ·intro i i' b h1 h2
  simp only[upd_apply] at h1 h2
  split at h1 <;> split at h2
  ·rename_i e1 e2;rw [e1,e2]
  ·cases h1;exact absurd (S.fr.lbsize i' _ h2) (Nat.lt_irrefl _)
  ·cases h2;exact absurd (S.fr.lbsize i _ h1) (Nat.lt_irrefl _)
  ·exact S.fr.lbinj i i' b h1 h2
 ·intro i b h'
  simp only[upd_apply] at h'
  split at h'
  ·cases h';simp
  ·exact Nat.lt_of_lt_of_le (S.fr.lbsize i b h') (by simp)
 ·intro i b h'
  simp only[upd_apply] at h'
  split at h'
  ·cases h';exact S.evo.size
  ·exact S.new i b h'
def arows (tt:Nat→TI) (ev:Operand→AV):Op→Option (Nat × List (List AV) × Nat)
 | .alloc e=>if (tt e).knows then some ((tt e).size,[(tt e).zero],e) else none
 | .box e x=>if (tt e).knows=true∧noL (ev x)=true∧(ev x).cells.length=(tt e).size∧(ev x).cells.all AV.cell=true then some ((tt e).size,[(ev x).cells],e) else none
 | _=>none
theorem arows_sound (T:Tab P tt) {c:Cx} {lb:Bid→Option Nat} {ev:Operand→AV} {ρ:Operand→Value} (hE:∀ x,VL c lb (ev x) (ρ x)) {o:Oper} {e:Nat} {es:List (List AV)} {ty:TypeId} (h:arows tt ev o.op=some (e,es,ty)) :
  ∃ r xs,es=[r]∧r.length=e∧r.all AV.cell=true∧VRs c r xs∧∀ w,(execOp ρ o).run P w=.ok (.value (.pointer (some ⟨w.heap.size,0,none⟩))) (w.alloc (.cells xs.toArray ty)):=by
 unfold execOp
 generalize o.op=op at h ⊢
 cases op <;> simp only[arows,reduceCtorEq] at h
 case alloc e =>
  split at h
  ·rename_i hk
   cases h
   obtain ⟨i,z,hi,hs,_,hz,hzr,hzl,hzc⟩:=(T.all _ hk).info
   refine ⟨_,z.cells.toList,rfl,hzl,hzc,hzr c,fun w=>?_⟩
   simp [Instr.alloc,run_zeroValue' hi hz,newVar,newRow,newObj,Sem.run]
  ·cases h
 case box e x =>
  split at h
  ·rename_i hc
   cases h
   refine ⟨_,(ρ x).cells.toList,rfl,hc.2.2.1,hc.2.2.2,((hE x).vr hc.2.1).cells hc.2.2.2,fun w=>?_⟩
   simp [Instr.box,newVar,newRow,newObj,Sem.run]
  ·cases h
end Go.Av
namespace Go.Av
variable {P:Program} {tt:Nat→TI}
def bnd (d:Int):Option AV→Option Int
 | none=>some d
 | some (.int _ n)=>some n
 | _=>none
def asl (ti:TI) (esz:Nat) (lo hi:Option AV):AV→Option AV
 | .str s=>match ti.k,bnd 0 lo,bnd s.length hi with
  | .str,some l,some h=>if 0≤l∧l≤h∧h≤s.length then some (.str ((s.drop l.toNat).take (h.toNat - l.toNat))) else none
  | _,_,_=>none
 | .slc b e o n=>match ti.k,bnd 0 lo,bnd n hi with
  | .slice _,some l,some h=>if e=esz then (if 0≤l∧l≤h∧h≤n then some (.slc b e (o+l.toNat) (h.toNat - l.toNat)) else none) else none
  | _,_,_=>none
 | .lst e es=>match ti.k,bnd 0 lo,bnd es.length hi with
  | .slice _,some l,some h=>if e=esz then (if 0≤l∧l≤h∧h≤es.length then some (.lst e ((es.drop l.toNat).take (h.toNat - l.toNat))) else none) else none
  | _,_,_=>none
 | .iptr cs j=>match ti.k,lo,hi with
  | .array n _,none,none=>if esz=1∧j+n≤cs.length then some (.lstx 1 (((cs.drop j).take n).map fun x=>[x])) else none
  | _,_,_=>none
 | .aptr b m j=>match ti.k,lo,hi with
  | .array n _,none,none=>if esz=1∧j+n≤m∧n≤maxLen then some (.slc b 1 j n) else none
  | _,_,_=>none
 | _=>none
theorem bnd_int {c:Cx} {lb:Bid→Option Nat} {ev:Operand→AV} {ρ:Operand→Value} (hE:∀ x,VL c lb (ev x) (ρ x)) {d:Int} {x:Option Operand} {n:Int} (h:bnd d (x.map ev)=some n) :
  (x=none∧n=d) ∨ ∃ o k,x=some o∧ρ o=.int k n:=by
 cases x with
 | none=>simp [bnd] at h;exact .inl ⟨rfl,h.symm⟩
 | some o =>
  simp only[Option.map_some] at h
  cases he:ev o <;> rw [he] at h <;> simp only[bnd,reduceCtorEq,Option.some.injEq] at h
  subst h
  have:=hE o
  rw [he,VL_int] at this
  exact .inr ⟨o,_,rfl,this⟩
theorem run_bounds {w:World} {sl:Bool} {len cap:Nat} {l h:Int} {lo hi:Option Value} (hl:(lo=none∧l=0) ∨ ∃ k,lo=some (.int k l)) (hh:(hi=none∧h=len) ∨ ∃ k,hi=some (.int k h))
  (h0:0≤l) (h1:l≤h) (h2:h≤len) (hc:len≤cap):(Instr.sliceBounds sl len cap lo hi none).run P w=.ok (l.toNat,h.toNat,cap) w:=by
 unfold Instr.sliceBounds
 have hb:∀ (x:Int) (k:IntKind) (y:Nat) (code:BoundsCode),0≤x→x≤y→(Instr.sliceBound (.int k x) y code).run P w=.ok x.toNat w:=by
  intro x k y code hx hy
  simp [Instr.sliceBound,asIntOf,hx,hy]
 rcases hl with ⟨rfl,rfl⟩|⟨k,rfl⟩ <;> rcases hh with ⟨rfl,rfl⟩|⟨k',rfl⟩
 ·simp
 ·simp [hb h k' cap _ (by omega) (by omega)]
 ·have:=hb l k len .sliceB h0 (by omega)
  simp [this]
 ·have e1:=hb h k' cap (if sl=true then .sliceAcap else .sliceAlen) (by omega) (by omega)
  have e2:=hb l k h.toNat .sliceB h0 (by omega)
  simp [e1,e2]
theorem lst_part {c:Cx} {e:Nat} {a:Option Addr} {vs:List (List Value)} {l m:Nat} (h:lstAt c e a vs) (hne:(vs.drop l).take m ≠ []):lstAt c e (a.map (·.add (l * e))) ((vs.drop l).take m):=by
 rcases h with rfl|⟨b,o,rfl,hi,hr⟩
 ·simp at hne
 ·refine .inr ⟨b,o+l * e,by simp [addr_add],hi,fun i row hrow=>?_⟩
  rw [List.getElem?_take] at hrow
  split at hrow
  ·rw [List.getElem?_drop] at hrow
   have:=hr (l+i) row hrow
   rwa [Nat.add_mul,← Nat.add_assoc] at this
  ·cases hrow
theorem VRss.drop {c:Cx} {vs:List (List AV)} {xs:List (List Value)} (h:VRss c vs xs) (n:Nat):VRss c (vs.drop n) (xs.drop n) :=
 VRss.of_get (by simp [h.length]) (fun i v x hv hx=>by
  rw [List.getElem?_drop] at hv hx
  obtain ⟨x',hx',hr⟩:=h.get _ v hv
  rw [hx] at hx';cases hx';exact hr)
theorem VRss.take {c:Cx} {vs:List (List AV)} {xs:List (List Value)} (h:VRss c vs xs) (n:Nat):VRss c (vs.take n) (xs.take n) :=
 VRss.of_get (by simp [h.length]) (fun i v x hv hx=>by
  rw [List.getElem?_take] at hv hx
  split at hv
  ·simp_all
   obtain ⟨x',hx',hr⟩:=h.get i v hv
   rw [hx] at hx';cases hx';exact hr
  ·cases hv)
theorem VRss.append {c:Cx}:∀ {vs ws:List (List AV)} {xs ys:List (List Value)},VRss c vs xs→VRss c ws ys→VRss c (vs ++ ws) (xs ++ ys)
 | [],_,_,_,h,k=>by simp only[VRss] at h;subst h;exact k
 | v :: vs,_,_,_,h,k=>by
  simp only[VRss] at h
  obtain ⟨x,xs,rfl,h1,h2⟩:=h
  simp only[List.cons_append,VRss]
  exact ⟨x,_,rfl,h1,VRss.append h2 k⟩
theorem VRss.nil {c:Cx}:VRss c [] []:=by simp [VRss]
theorem asl_sound (T:Tab P tt) {c:Cx} {lb:Bid→Option Nat} {ev:Operand→AV} {ρ:Operand→Value} (hE:∀ x,VL c lb (ev x) (ρ x)) {t:Nat} {x:Operand} {lo hi:Option Operand} {e:Nat}
  (he:∀ e',(tt t).k=.slice e'→e=(tt e').size) (he2:∀ n e',(tt t).k=.array n e'→e=(tt e').size) {r:AV} (h:asl (tt t) e (lo.map ev) (hi.map ev) (ev x)=some r) :
  ∃ z,VL c lb r z∧∀ w,(Instr.sliceAt t (ρ x) (lo.map ρ) (hi.map ρ) none).run P w=.ok z w:=by
 have hx:=hE x
 cases hv:ev x <;> rw [hv] at h hx <;> simp only[asl,reduceCtorEq] at h
 case str s =>
  split at h
  ·rename_i l hh hk hl hhi
   split at h
   ·rename_i hb
    cases h
    have hu:P.underlying t=some .string:=by have:=(T.good hk (by simp)).kind;rw [hk] at this;exact this
    have hx':VR c (.str s) (ρ x):=hx
    simp only[VR] at hx'
    refine ⟨.string ⟨((s.drop l.toNat).take (hh.toNat - l.toNat)).toArray⟩,by simp only[VL,VR],fun w=>?_⟩
    have hbb:=run_bounds (P:=P) (w:=w) (sl:=false) (len:=s.length) (cap:=s.length) (l:=l) (h:=hh) (lo:=lo.map ρ) (hi:=hi.map ρ)
     ((bnd_int hE hl).imp (fun ⟨a,b⟩=>⟨by rw [a];rfl,b⟩) (fun ⟨o,k,a,b⟩=>⟨k,by rw [a];simp [b]⟩))
     ((bnd_int hE hhi).imp (fun ⟨a,b⟩=>⟨by rw [a];rfl,b⟩) (fun ⟨o,k,a,b⟩=>⟨k,by rw [a];simp [b]⟩)) hb.1 hb.2.1 hb.2.2 (Nat.le_refl _)
    rw [hx']
    unfold Instr.sliceAt
    rw [Sem.run_bind,run_underlying hu,Result.andThen_ok]
    simp only[Instr.slice,Sem.run_bind,run_underlying hu,Result.andThen_ok,ba_size,hbb]
    simp only[Option.isSome_none,Bool.false_eq_true,if_false,Sem.run_pure,Sem.run_bind,Result.andThen_ok,hbb]
    congr 2
    apply ByteArray.ext
    simp [ByteArray.data_extract]
   ·cases h
  ·cases h
 case slc b e' o n =>
  split at h
  ·rename_i el l hh hk hl hhi
   split at h
   ·rename_i hee
    split at h
    ·rename_i hb
     cases h
     subst hee
     obtain ⟨hu,_⟩:=slice_elem T hk
     obtain ⟨ie,hie,hsz,_⟩:=elem_info T (t:=t) (e:=el) (by rw [hk];rfl)
     have he':=he el hk
     have hx':VR c (.slc b e' o n) (ρ x):=hx
     simp only[VR] at hx'
     obtain ⟨hd,hesz,a,cap,g1,g2,g3,g4,g5⟩:=hx'
     refine ⟨.slice (some (if cap=l.toNat then a else a.add (l.toNat * e'))) (hh.toNat - l.toNat) (cap - l.toNat),?_,fun w=>?_⟩
     ·simp only[VL,VR]
      refine ⟨hd,hesz,_,_,by omega,by omega,?_,rfl,fun hc=>?_⟩
      ·have:o+l.toNat+(cap - l.toNat)=o+cap:=by omega
       rw [this];exact g3
      ·rw [if_neg (by omega),g5 (by omega),addr_add,Nat.add_mul]
     ·have hbb:=run_bounds (P:=P) (w:=w) (sl:=true) (len:=n) (cap:=cap) (l:=l) (h:=hh) (lo:=lo.map ρ) (hi:=hi.map ρ)
       ((bnd_int hE hl).imp (fun ⟨a,b⟩=>⟨by rw [a];rfl,b⟩) (fun ⟨o,k,a,b⟩=>⟨k,by rw [a];simp [b]⟩))
       ((bnd_int hE hhi).imp (fun ⟨a,b⟩=>⟨by rw [a];rfl,b⟩) (fun ⟨o,k,a,b⟩=>⟨k,by rw [a];simp [b]⟩)) hb.1 hb.2.1 hb.2.2 g1
      rw [g4]
      unfold Instr.sliceAt
      rw [Sem.run_bind,run_underlying hu,Result.andThen_ok]
      simp only[Instr.slice,Sem.run_bind,run_underlying hu,Result.andThen_ok,hbb,run_sizeOf' hie,Sem.run_pure,hsz,← he']
      congr 2
      split <;> rfl
    ·cases h
   ·cases h
  ·cases h
 case lst e' es =>
  split at h
  ·rename_i el l hh hk hl hhi
   split at h
   ·rename_i hee
    split at h
    ·rename_i hb
     cases h
     subst hee
     obtain ⟨hu,_⟩:=slice_elem T hk
     obtain ⟨ie,hie,hsz,_⟩:=elem_info T (t:=t) (e:=el) (by rw [hk];rfl)
     have he':=he el hk
     have hx':VR c (.lst e' es) (ρ x):=hx
     simp only[VR] at hx'
     obtain ⟨a,cap,vs,g1,hcap,g2,g3,g4,g5⟩:=hx'
     refine ⟨.slice (if cap=l.toNat then a else a.map (·.add (l.toNat * e'))) (hh.toNat - l.toNat) (cap - l.toNat),?_,fun w=>?_⟩
     ·simp only[VL,VR]
      refine ⟨if cap=l.toNat then a else a.map (·.add (l.toNat * e')),cap - l.toNat,(vs.drop l.toNat).take (hh.toNat - l.toNat),?_,?_,?_,?_,?_,(g5.drop _).take _⟩
      ·congr 1
       simp only[List.length_take,List.length_drop];omega
      ·simp only[List.length_take,List.length_drop];omega
      ·intro ha
       have:a=none:=by split at ha <;> simp_all
       rw [g2 this];simp
      ·intro r hr
       exact g3 r (List.mem_of_mem_drop (List.mem_of_mem_take hr))
      ·by_cases hne:(vs.drop l.toNat).take (hh.toNat - l.toNat)=[]
       ·exact .inl hne
       ·rw [if_neg]
        ·exact lst_part g4 hne
        ·intro hcl
         apply hne
         have:=g5.length
         apply List.eq_nil_of_length_eq_zero
         simp only[List.length_take,List.length_drop];omega
     ·have hbb:=run_bounds (P:=P) (w:=w) (sl:=true) (len:=es.length) (cap:=cap) (l:=l) (h:=hh) (lo:=lo.map ρ) (hi:=hi.map ρ)
       ((bnd_int hE hl).imp (fun ⟨a,b⟩=>⟨by rw [a];rfl,b⟩) (fun ⟨o,k,a,b⟩=>⟨k,by rw [a];simp [b]⟩))
       ((bnd_int hE hhi).imp (fun ⟨a,b⟩=>⟨by rw [a];rfl,b⟩) (fun ⟨o,k,a,b⟩=>⟨k,by rw [a];simp [b]⟩)) hb.1 hb.2.1 hb.2.2 hcap
      rw [g1]
      unfold Instr.sliceAt
      rw [Sem.run_bind,run_underlying hu,Result.andThen_ok]
      simp only[Instr.slice,Sem.run_bind,run_underlying hu,Result.andThen_ok,hbb,run_sizeOf' hie,Sem.run_pure,hsz,← he']
    ·cases h
   ·cases h
  ·cases h
 case iptr cs j =>
  split at h
  ·rename_i n el hk hl hhi
   split at h
   ·rename_i hc
    obtain ⟨rfl,hcl⟩:=hc
    cases h
    obtain ⟨hu,_⟩:=array_elem T hk
    obtain ⟨ie,hie,hsz,_⟩:=elem_info T (t:=t) (e:=el) (by rw [hk];rfl)
    have he':=he2 n el hk
    have hx':VR c (.iptr cs j) (ρ x):=hx
    simp only[VR] at hx'
    obtain ⟨b,o',xs',hxe,him,hra',hcs',hvs'⟩:=hx'
    have hlen:((cs.drop j).take n).length=n:=by rw [List.length_take,List.length_drop];omega
    have hra:∀ i y,((xs'.drop j).take n)[i]?=some y→c.w.cell? ⟨b,(o'+j)+i,none⟩=some y:=by
     intro i y hy
     rw [List.getElem?_take] at hy
     split at hy
     ·rw [List.getElem?_drop] at hy
      have:=hra' (j+i) y hy
      rwa [← Nat.add_assoc] at this
     ·cases hy
    have hcs:((cs.drop j).take n).all AV.cell=true:=by
     rw [List.all_eq_true] at hcs' ⊢
     exact fun v hv=>hcs' v (List.mem_of_mem_drop (List.mem_of_mem_take hv))
    have hvs:=(hvs'.drop j).take n
    generalize (cs.drop j).take n=ds at hlen hcs hvs ⊢
    generalize (xs'.drop j).take n=xs at hra hvs
    generalize o'+j=o at hra hxe
    have hlo:lo=none:=by cases lo with|none=>rfl|some _=>simp at hl
    have hhi':hi=none:=by cases hi with|none=>rfl|some _=>simp at hhi
    subst hlo hhi'
    refine ⟨.slice (some ⟨b,o,none⟩) n n,?_,fun w=>?_⟩
    ·simp only[VL,VR]
     refine ⟨some ⟨b,o,none⟩,xs.map fun x=>[x],by rw [List.length_map,hlen],(fun h=>by cases h),?_,.inr ⟨b,o,rfl,him,fun i row hr=>?_⟩,?_⟩
     ·intro r hr
      obtain ⟨y,hy,rfl⟩:=List.mem_map.1 hr
      refine ⟨rfl,?_⟩
      rw [List.all_eq_true] at hcs
      simp [hcs y hy]
     ·rw [List.getElem?_map] at hr
      cases hxi:xs[i]? with
      | none=>rw [hxi] at hr;cases hr
      | some y =>
       rw [hxi] at hr
       cases hr
       intro j v hv
       cases j with
       | zero =>
        simp only[List.getElem?_cons_zero,Option.some.injEq] at hv
        subst hv
        simpa using hra i _ hxi
       | succ j=>simp at hv
     ·clear hxe hra hcs hlen
      induction ds generalizing xs with
      | nil=>simp only[VRs] at hvs;subst hvs;exact VRss.nil
      | cons v ds ih =>
       simp only[VRs] at hvs
       obtain ⟨y,ys,rfl,h1,h2⟩:=hvs
       simp only[List.map_cons,VRss]
       exact ⟨_,_,rfl,VRs.cons h1 VRs.nil,ih ys h2⟩
    ·have hbb:=run_bounds (P:=P) (w:=w) (sl:=false) (len:=n) (cap:=n) (l:=0) (h:=n) (lo:=none) (hi:=none) (.inl ⟨rfl,rfl⟩) (.inl ⟨rfl,rfl⟩) (Int.le_refl _) (by omega) (by omega) (Nat.le_refl _)
     rw [hxe]
     unfold Instr.sliceAt
     rw [Sem.run_bind,run_underlying hu,Result.andThen_ok]
     have hn:((n:Nat):Int).toNat=n:=rfl
     have h0:(0:Int).toNat=0:=rfl
     simp only[Option.map_none,Instr.sureAddr,Sem.run_bind,Result.andThen_ok,hbb,run_sizeOf' hie,Sem.run_pure,hsz,← he',hn,h0,Nat.zero_mul,Nat.add_zero,Nat.sub_zero]
     congr 2
     split
     ·rfl
     ·rw [addr_add,Nat.add_zero]
   ·cases h
  ·cases h
 case aptr b m j =>
  split at h
  ·rename_i n el hk hl hhi
   split at h
   ·rename_i hc
    obtain ⟨rfl,hle,hle2⟩:=hc
    cases h
    obtain ⟨hu,_⟩:=array_elem T hk
    obtain ⟨ie,hie,hsz,_⟩:=elem_info T (t:=t) (e:=el) (by rw [hk];rfl)
    have he':=he2 n el hk
    have hx':VR c (.aptr b m j) (ρ x):=hx
    simp only[VR] at hx'
    obtain ⟨hd,hez,hmt,hxe⟩:=hx'
    have hlo:lo=none:=by cases lo with|none=>rfl|some _=>simp at hl
    have hhi':hi=none:=by cases hi with|none=>rfl|some _=>simp at hhi
    subst hlo hhi'
    refine ⟨.slice (some ⟨(c.fm b).blk,j,none⟩) n n,?_,fun w=>?_⟩
    ·simp only[VL,VR]
     exact ⟨hd,hez.symm,_,n,Nat.le_refl _,hle2,by omega,rfl,fun _=>by rw [Nat.mul_one]⟩
    ·have hbb:=run_bounds (P:=P) (w:=w) (sl:=false) (len:=n) (cap:=n) (l:=0) (h:=n) (lo:=none) (hi:=none) (.inl ⟨rfl,rfl⟩) (.inl ⟨rfl,rfl⟩) (Int.le_refl _) (by omega) (by omega) (Nat.le_refl _)
     rw [hxe]
     unfold Instr.sliceAt
     rw [Sem.run_bind,run_underlying hu,Result.andThen_ok]
     have hn:((n:Nat):Int).toNat=n:=rfl
     have h0:(0:Int).toNat=0:=rfl
     simp only[Option.map_none,Instr.sureAddr,Sem.run_bind,Result.andThen_ok,hbb,run_sizeOf' hie,Sem.run_pure,hsz,← he',hn,h0,Nat.zero_mul,Nat.add_zero,Nat.sub_zero]
     congr 2
     split
     ·rfl
     ·rw [addr_add,Nat.add_zero]
   ·cases h
  ·cases h
end Go.Av
namespace Go.Av
variable {P:Program} {tt:Nat→TI}
theorem flat_put {α:Type}:∀ {vs:List (List α)} {e:Nat},(∀ r ∈ vs,r.length=e)→∀ {i:Nat} {row:List α},vs[i]?=some row→∀ {m:Nat} {u:α},row[m]?=some u→vs.flatten[i * e+m]?=some u
 | [],_,_,i,_,h,_,_,_=>by simp at h
 | r :: vs,e,hl,i,row,h,m,u,hm=>by
  have hr:r.length=e:=hl r (by simp)
  cases i with
  | zero =>
   simp only[List.getElem?_cons_zero,Option.some.injEq] at h
   subst h
   rw [List.flatten_cons,Nat.zero_mul,Nat.zero_add,List.getElem?_append_left (List.getElem?_eq_some_iff.1 hm).1]
   exact hm
  | succ i =>
   rw [List.flatten_cons,List.getElem?_append_right (by rw [hr,Nat.add_mul];omega)]
   rw [show (i+1) * e+m - r.length=i * e+m by rw [hr,Nat.add_mul];omega]
   exact flat_put (fun r hr=>hl r (by simp [hr])) (by simpa using h) hm
theorem flat_get {α:Type}:∀ {vs:List (List α)} {e:Nat},(∀ r ∈ vs,r.length=e)→∀ {j:Nat} {u:α},vs.flatten[j]?=some u→∃ i m row,vs[i]?=some row∧row[m]?=some u∧j=i * e+m
 | [],_,_,j,_,h=>by simp at h
 | r :: vs,e,hl,j,u,h=>by
  have hr:r.length=e:=hl r (by simp)
  rcases Nat.lt_or_ge j r.length with hj|hj
  ·rw [List.flatten_cons,List.getElem?_append_left hj] at h
   exact ⟨0,j,r,rfl,h,by simp⟩
  ·rw [List.flatten_cons,List.getElem?_append_right hj] at h
   obtain ⟨i,m,row,h1,h2,h3⟩:=flat_get (fun r hr=>hl r (by simp [hr])) h
   exact ⟨i+1,m,row,by simpa using h1,h2,by rw [Nat.add_mul];omega⟩
theorem flat_length {α:Type}:∀ {vs:List (List α)} {e:Nat},(∀ r ∈ vs,r.length=e)→vs.flatten.length=vs.length * e
 | [],_,_=>by simp
 | r :: vs,e,hl=>by
  rw [List.flatten_cons,List.length_append,flat_length (fun r hr=>hl r (by simp [hr])),hl r (by simp),List.length_cons,Nat.add_mul];omega
theorem take_flat {α:Type} {cur:List α} {vs:List (List α)} {e:Nat} (hl:∀ r ∈ vs,r.length=e) (hc:∀ (i:Nat) r,vs[i]?=some r→∀ (m:Nat) v,r[m]?=some v→cur[i * e+m]?=some v) :
  cur.take (vs.length * e)=vs.flatten:=by
 apply List.ext_getElem?
 intro j
 have hfl:=flat_length hl
 by_cases hj:j < vs.length * e
 ·rw [List.getElem?_take,if_pos hj]
  have:j < vs.flatten.length:=by omega
  obtain ⟨i,m,row,h1,h2,h3⟩:=flat_get hl (List.getElem?_eq_getElem this)
  have h4:=hc i row h1 m _ h2
  rw [← h3] at h4
  rw [h4,List.getElem?_eq_getElem this]
 ·rw [List.getElem?_take,if_neg hj,List.getElem?_eq_none (by omega)]
theorem VRss.rows {c:Cx} {es:List (List AV)} {vs:List (List Value)} {e:Nat} (h:VRss c es vs) (hr:rowsOk e es):(∀ r ∈ vs,r.length=e)∧∀ u ∈ vs.flatten,u.oneCell'=true:=by
 have key:∀ r ∈ vs,∃ s ∈ es,VRs c s r:=by
  intro r hr'
  obtain ⟨i,hi⟩:=List.getElem?_of_mem hr'
  have hil:i < es.length:=by rw [← h.length];exact (List.getElem?_eq_some_iff.1 hi).1
  obtain ⟨r',hr'',hv⟩:=h.get i _ (List.getElem?_eq_getElem hil)
  rw [hi] at hr'';cases hr''
  exact ⟨_,List.getElem_mem hil,hv⟩
 refine ⟨fun r hr'=>?_,fun u hu=>?_⟩
 ·obtain ⟨s,hs,hv⟩:=key r hr'
  rw [hv.length];exact (hr s hs).1
 ·obtain ⟨r,hr',hur⟩:=List.mem_flatten.1 hu
  obtain ⟨s,hs,hv⟩:=key r hr'
  exact hv.oneCells (hr s hs).2 u hur
def asrc (h:AH) (sz:Nat):AV→Option (List (List AV))
 | .slc b e o m=>match h.at_ b with
  | some k=>if e=sz then (if o+m≤k.es.length then some ((k.es.drop o).take m) else none) else none
  | none=>none
 | .lst e es=>if e=sz then some es else none
 | .lstx e es=>if e=sz then some es else none
 | .nils=>some []
 | _=>none
theorem asrc_sound {c:Cx} {h:AH} (H:HRel c h) {sz:Nat} {y:AV} {x:Value} (hx:VR c y x) {rows:List (List AV)} (hs:asrc h sz y=some rows) :
  ∃ a cap vs,x=.slice a rows.length cap∧rowsOk sz rows∧VRss c rows vs∧(a=none→rows=[])∧∀ a',a=some a'→∀ j u,vs.flatten[j]?=some u→c.w.cell? (a'.add j)=some u:=by
 cases y <;> simp only[asrc,reduceCtorEq] at hs
 case slc b e o m =>
  split at hs
  ·rename_i k hk
   split at hs
   ·rename_i he
    split at hs
    ·rename_i hle
     cases hs
     subst he
     simp only[VR] at hx
     obtain ⟨hd,hesz,a,cap,g1,g2,g3,rfl,g5⟩:=hx
     obtain ⟨_,hesz',hrows,_,_,vs,h7,h8⟩:=H.blk b k hk
     have hee:k.esz=e:=by rw [hesz',hesz]
     rw [hee] at hrows h8
     have hrows':rowsOk e ((k.es.drop o).take m):=fun r hr=>hrows r (List.mem_of_mem_drop (List.mem_of_mem_take hr))
     have hvs:=(h7.drop o).take m
     refine ⟨some a,cap,_,by rw [List.length_take,List.length_drop];congr 1;omega,hrows',hvs,by simp,?_⟩
     intro a' ha j u hu
     cases ha
     obtain ⟨i,mm,row,h1,h2,h3⟩:=flat_get (hvs.rows hrows').1 hu
     have him:i < m:=by
      have:=(List.getElem?_eq_some_iff.1 h1).1
      rw [List.length_take] at this;omega
     rw [g5 (by omega),addr_add]
     rw [List.getElem?_take,if_pos him,List.getElem?_drop] at h1
     have:=h8 (o+i) row h1 mm u h2
     rw [h3]
     rwa [Nat.add_mul,Nat.add_assoc] at this
    ·cases hs
   ·cases hs
  ·cases hs
 case lst e es =>
  split at hs
  ·rename_i he
   cases hs
   subst he
   simp only[VR] at hx
   obtain ⟨a,cap,vs,rfl,_,g2,g3,g4,g5⟩:=hx
   refine ⟨a,cap,vs,rfl,g3,g5,g2,?_⟩
   intro a' ha j u hu
   obtain ⟨i,mm,row,h1,h2,h3⟩:=flat_get (g5.rows g3).1 hu
   rcases g4 with rfl|⟨b,o,hb,_,hr⟩
   ·simp at hu
   ·rw [ha] at hb
    cases hb
    rw [addr_add,h3,← Nat.add_assoc]
    exact hr i row h1 mm u h2
  ·cases hs
 case lstx e es =>
  split at hs
  ·rename_i he
   cases hs
   subst he
   simp only[VR] at hx
   obtain ⟨a,vs,rfl,g2,g3,g4,g5⟩:=hx
   refine ⟨a,_,vs,rfl,g3,g5,g2,?_⟩
   intro a' ha j u hu
   obtain ⟨i,mm,row,h1,h2,h3⟩:=flat_get (g5.rows g3).1 hu
   rcases g4 with rfl|⟨b,o,hb,_,hr⟩
   ·simp at hu
   ·rw [ha] at hb
    cases hb
    rw [addr_add,h3,← Nat.add_assoc]
    exact hr i row h1 mm u h2
  ·cases hs
 case nils =>
  cases hs
  simp only[VR] at hx
  subst hx
  exact ⟨none,0,[],rfl,(fun r hr=>by simp at hr),VRss.nil,fun _=>rfl,by simp⟩
theorem run_append_none {w:World} (t ty e:TypeId) (i:TypeInfo) (ht:P.underlying t=some (.slice e)) (hi:P.info? e=some i) (a:Option Addr) (n cap c:Nat) (hn:n≤cap) :
  (Builtin.append_ #[t,t] ty #[.slice a n cap,.slice none 0 c]).run P w=.ok (.slice a n cap) w:=by
 cases a <;> simp [Builtin.append_,run_underlying ht,sizeOf,typeInfo,hi,Builtin.lenOf,hn,Builtin.firstCells,storeCells]
theorem run_append_zero {w:World} (t ty e:TypeId) (i:TypeInfo) (ht:P.underlying t=some (.slice e)) (hi:P.info? e=some i) (a a2:Option Addr) (n cap c:Nat) (hn:n≤cap) :
  (Builtin.append_ #[t,t] ty #[.slice a n cap,.slice a2 0 c]).run P w=.ok (.slice a n cap) w:=by
 cases a2 with
 | none=>exact run_append_none t ty e i ht hi a n cap c hn
 | some a2 =>
  have hf:=run_firstCells_some (P:=P) w i.size 0 a2 0 c [] (by simp) (by simp)
  cases a <;> simp [Builtin.append_,run_underlying ht,sizeOf,typeInfo,hi,Builtin.lenOf,hn,hf,storeCells]
theorem run_append_room' {w:World} (t ty e te:TypeId) (i:TypeInfo) (ht:P.underlying t=some (.slice e)) (hi:P.info? e=some i)
  (g sLen sCap:Nat) (cur:Array Value) (hg:w.heap[g]?=some (.cells cur te (0,0)))
  (a:Addr) (m c:Nat) (news:List Value) (hl:news.length=m * i.size) (hnews:∀ j u,news[j]?=some u→w.cell? (a.add j)=some u) (h1:∀ u ∈ news,u.oneCell'=true)
  (hroom:sLen+m≤sCap) (hfit:sLen * i.size+news.length≤cur.size) :
  (Builtin.append_ #[t,t] ty #[.slice (some ⟨g,0,none⟩) sLen sCap,.slice (some a) m c]).run P w =
   .ok (.slice (some ⟨g,0,none⟩) (sLen+m) sCap) (w.setRow g (cur.toList.take (sLen * i.size) ++ news ++ cur.toList.drop (sLen * i.size+news.length)).toArray):=by
 have hf:=run_firstCells_some (P:=P) w i.size m a m c news hl hnews
 have hst:=run_storeCells_at (P:=P) g (sLen * i.size) te news 0 cur w hg (by simpa using hfit) h1
 simp only[Nat.add_zero] at hst
 simp [Builtin.append_,run_underlying ht,sizeOf,typeInfo,hi,Builtin.lenOf,hroom,hf,Addr.add_lit,hst]
theorem run_append_roomO {w:World} (t ty e te:TypeId) (i:TypeInfo) (ht:P.underlying t=some (.slice e)) (hi:P.info? e=some i)
  (g off sLen sCap:Nat) (cur:Array Value) (hg:w.heap[g]?=some (.cells cur te (0,0)))
  (a:Addr) (m c:Nat) (news:List Value) (hl:news.length=m * i.size) (hnews:∀ j u,news[j]?=some u→w.cell? (a.add j)=some u) (h1:∀ u ∈ news,u.oneCell'=true)
  (hroom:sLen+m≤sCap) (hfit:off+sLen * i.size+news.length≤cur.size) :
  (Builtin.append_ #[t,t] ty #[.slice (some ⟨g,off,none⟩) sLen sCap,.slice (some a) m c]).run P w =
   .ok (.slice (some ⟨g,off,none⟩) (sLen+m) sCap) (w.setRow g (cur.toList.take (off+sLen * i.size) ++ news ++ cur.toList.drop (off+sLen * i.size+news.length)).toArray):=by
 have hf:=run_firstCells_some (P:=P) w i.size m a m c news hl hnews
 have hst:=run_storeCells_at (P:=P) g (off+sLen * i.size) te news 0 cur w hg (by simpa using hfit) h1
 simp only[Nat.add_zero] at hst
 simp [Builtin.append_,run_underlying ht,sizeOf,typeInfo,hi,Builtin.lenOf,hroom,hf,Addr.add_lit,hst]
def Cx.ren (c:Cx) (b id:Bid):Cx:={ c with fm:=upd c.fm id (c.fm b),dom:=fun x=>x=id ∨ c.dom x }
theorem HRel.rename {c:Cx} {h:AH} (H:HRel c h) {b id:Bid} {k:Blk} (hb:h.at_ b=some k) (hid:¬ c.dom id) (hlt:id.1 < h.clk) :
  HRel (c.ren b id) ((h.put b none).put id (some k))∧Evo c h (c.ren b id) ((h.put b none).put id (some k)):=by
 let c':=c.ren b id
 have hne:b ≠ id:=by rintro rfl;exact hid (H.blk b k hb).1
 have hfm:∀ x,x ≠ id→c'.fm x=c.fm x:=fun x hx=>upd_ne _ _ hx
 have hfi:c'.fm id=c.fm b:=upd_same _ _ _
 have hle:c.Le c':=⟨fun _ h=>.inr h,fun x hx=>hfm x (fun e=>hid (e ▸ hx)),fun _ h=>h,fun _ _=>rfl⟩
 have at_:∀ x k',((h.put b none).put id (some k)).at_ x=some k'→(x=id∧k'=k) ∨ (x ≠ id∧x ≠ b∧h.at_ x=some k'):=by
  intro x k' hx
  simp only[AH.put,upd_apply] at hx
  split at hx
  ·rename_i e;exact .inl ⟨e,by cases hx;rfl⟩
  ·rename_i e
   split at hx
   ·cases hx
   ·rename_i e';exact .inr ⟨e,e',hx⟩
 have hB:=H.blk b k hb
 refine ⟨⟨?_,?_,?_,?_,H.imlt,fun l r hr=>(H.lp l r hr).mono hle rfl,H.lpim,fun x k' l r hx hr=>(at_ x k' hx).elim (fun e=>by rw [e.1,hfi];exact H.lpat b _ l r hb hr) (fun e=>by rw [hfm x e.1];exact H.lpat x k' l r e.2.2 hr),H.gl.mono hle⟩,⟨hle,Nat.le_refl _,Nat.le_refl _,fun _ _ _=>rfl,fun _ h=>.inl h,?_,?_,rfl,rfl,rfl,rfl⟩⟩
 ·rintro x (rfl|hx)
  ·exact hlt
  ·exact H.clk x hx
 ·intro x k' hx
  rcases at_ x k' hx with ⟨rfl,rfl⟩|⟨h1,h2,h3⟩
  ·obtain ⟨_,g2,g3,g4,g5,vs,g7,g8⟩:=hB
   exact ⟨.inl rfl,by rw [hfi];exact g2,g3,by rw [hfi];exact g4,by rw [hfi];exact g5,vs,VRss.mono hle _ _ g7,fun i row hr=>by rw [hfi];exact g8 i row hr⟩
  ·exact (H.blk x k' h3).mono hle rfl
 ·intro x y k1 k2 hx hy he
  rcases at_ x k1 hx with ⟨rfl,_⟩|⟨h1,h2,h3⟩ <;> rcases at_ y k2 hy with ⟨e,_⟩|⟨h4,h5,h6⟩
  ·exact e.symm
  ·rw [hfi,hfm y h4] at he
   exact absurd (H.inj b y k k2 hb h6 he).symm h5
  ·rw [e,hfi,hfm x h1] at he
   exact absurd (H.inj x b k1 k h3 hb he) h2
  ·rw [hfm x h1,hfm y h4] at he
   exact H.inj x y k1 k2 h3 h6 he
 ·intro x k' hx
  rcases at_ x k' hx with ⟨rfl,_⟩|⟨h1,_,h3⟩
  ·rw [hfi];exact H.im b k hb
  ·rw [hfm x h1];exact H.im x k' h3
 ·rintro i (⟨x,k',hx,rfl⟩|⟨r,hr⟩)
  ·rcases at_ x k' hx with ⟨rfl,_⟩|⟨h1,_,h3⟩
   ·rw [hfi];exact .inr (.inl ⟨b,k,hb,rfl⟩)
   ·rw [hfm x h1];exact .inr (.inl ⟨x,k',h3,rfl⟩)
  ·exact .inr (.inr ⟨r,hr⟩)
 ·intro x k' hx hd
  rcases at_ x k' hx with ⟨rfl,_⟩|⟨_,_,h3⟩
  ·exact absurd hd hid
  ·exact ⟨k',h3⟩
def big:Nat:=70368744177664
def aapp (tt:Nat→TI) (h:AH) (t:Nat) (id:Bid) (x y:AV):Option (AV × AH) :=
  match (tt t).k with
  | .slice el =>
    if (tt el).size=0 then none else
    match asrc h (tt el).size y with
    | none=>none
    | some rows=>match x with
      | .nils=>if rows.length * (tt el).bytes≤big∧rows.length≤big then
          (if rows.length=0 then some (.nils,h) else some (.slc id (tt el).size 0 rows.length,h.put id (some ⟨(tt el).size,rows⟩))) else none
      | .slc b e 0 n=>match h.at_ b with
        | some k=>if e=(tt el).size then (if n≤k.es.length then (if (n+rows.length) * (tt el).bytes≤big∧n+rows.length≤big then
            some (.slc id (tt el).size 0 (n+rows.length),(h.put b none).put id (some ⟨(tt el).size,k.es.take n ++ rows⟩)) else none) else none) else none
        | none=>none
      | .lstx e es => if e = (tt el).size ∧ rows.length ≠ 0 then (if (es.length + rows.length) * (tt el).bytes ≤ big ∧ es.length + rows.length ≤ big then
            some (.slc id (tt el).size 0 (es.length+rows.length),h.put id (some ⟨(tt el).size,es ++ rows⟩)) else none) else none
      | _=>none
  | _=>none
theorem nextcap_le {n m:Nat} (h:m≤n):Builtin.nextslicecap n m≤2 * n:=by
 unfold Builtin.nextslicecap
 split
 ·omega
 ·split
  ·omega
  ·simp only[Builtin.growBy]
   repeat' split
   all_goals omega
theorem rowsOk_app {e:Nat} {a b:List (List AV)} (h:rowsOk e a) (k:rowsOk e b):rowsOk e (a ++ b):=fun r hr=>(List.mem_append.1 hr).elim (h r) (k r)
theorem rowsOk_take {e:Nat} {a:List (List AV)} (h:rowsOk e a) (n:Nat):rowsOk e (a.take n):=fun r hr=>h r (List.mem_of_mem_take hr)
theorem SR.drew {c0:Cx} {h0:AH} {c:Cx} {lb:Bid→Option Nat} {s:AS} {n:Nat} {a:Act} (S:SR c0 h0 c lb s n a):SR c0 h0 { c with w:=c.w.drew } lb s n a :=
 S.go (h':=s.h) (S.hr.world (Nat.le_refl _) (fun _ _=>rfl)) (Evo.world S.hr (Nat.le_refl _) (fun _ _=>rfl) rfl rfl rfl) (fun _ h=>.inl h)
theorem SR.append (T:Tab P tt) {c0:Cx} {h0:AH} {c:Cx} {lb:Bid→Option Nat} {s:AS} {n:Nat} {a:Act} (S:SR c0 h0 c lb s n a) {t:Nat} {id:Bid} (hid:¬ c.dom id) (hlt:id.1 < s.h.clk) (hge:h0.clk≤id.1)
  {x y v:AV} {X Y:Value} (hx:VL c lb x X) (hy:VL c lb y Y) {h':AH} (h:aapp tt s.h t id x y=some (v,h')) (ty:TypeId) :
  ∃ c' z,(Builtin.append_ #[t,t] ty #[X,Y]).run P c.w=.ok z c'.w∧VR c' v z∧SR c0 h0 c' lb { s with h:=h' } n a∧(∀ x,c'.dom x→c.dom x ∨ x=id)∧h'.clk=s.h.clk:=by
 unfold aapp at h
 split at h
 ·rename_i el hk
  obtain ⟨hu,_⟩:=slice_elem T hk
  have hkel:=T.elem t el (by rw [hk];rfl)
  obtain ⟨i,z,hi,hsz,hby,hz,hzr,hzl,hzc⟩:=(T.all el hkel).info
  split at h
  ·cases h
  ·rename_i hs0
   split at h
   ·cases h
   ·rename_i rows hsrc
    have hyn:VR c y Y:=by
     cases y <;> first|exact hy|(simp [asrc] at hsrc)
    obtain ⟨a2,cap2,vs,rfl,hrows,hvs,hnil,hcells⟩:=asrc_sound S.hr hyn hsrc
    obtain ⟨hvl,hone⟩:=hvs.rows hrows
    have hfl:vs.flatten.length=rows.length * i.size:=by rw [flat_length hvl,hvs.length,hsz]
    split at h
    ·-- nil
     have hx':VR c .nils X:=hx
     simp only[VR] at hx'
     subst hx'
     split at h
     ·rename_i hb
      split at h
      ·rename_i h0'
       cases h
       refine ⟨c,.slice none 0 0,?_,by simp [VR],S,fun _ h=>.inl h,rfl⟩
       cases a2 with
       | none=>rw [h0'];exact run_append_none t ty el i hu hi none 0 0 cap2 (Nat.le_refl _)
       | some a2 =>
        rw [h0']
        have hf:=run_firstCells_some (P:=P) c.w i.size 0 a2 0 cap2 [] (by simp) (by simp)
        simp [Builtin.append_,run_underlying hu,sizeOf,typeInfo,hi,Builtin.lenOf,hf]
      ·rename_i h0'
       cases h
       cases a2 with
       | none=>exact absurd (by rw [hnil rfl];rfl) h0'
       | some a2 =>
        unfold big at hb
        have hrun:=run_append_nil (P:=P) (w:=c.w) t ty el i z hu hi hz a2 rows.length cap2 vs.flatten hfl (hcells a2 rfl) (by omega) (by omega) (by rw [hby];omega)
        have S1:=S.drew
        have hS:=S1.newHeap (id:=id) hid hlt hge (vs.flatten.toArray ++ Builtin.zeroCells z.cells (grownCap c.w rows.length 0 el - rows.length)) el (e:=(tt el).size) hrows (VRss.mono (S.drew.evo.le.trans (Cx.Le.refl _) |> fun _=>⟨fun _ h=>h,fun _ _=>rfl,fun _ h=>h,fun _ _=>rfl⟩) _ _ hvs)
         (by simp only[Array.size_append,List.size_toArray,hfl,hsz];omega)
         (fun i' row hrow j u hu'=>by
          have:=flat_put hvl hrow hu'
          simp only[Array.getElem?_append,List.size_toArray,(List.getElem?_eq_some_iff.1 this).1,if_true]
          simpa using this)
        refine ⟨_,_,hrun,?_,hS,(fun x hx=>hx.elim .inr .inl),rfl⟩
        have hge':=grownCap_ge c.w rows.length 0 el
        have hcm:=grownCap_le_maxLen c.w rows.length 0 el (by unfold maxLen;omega)
        simp only[VR]
        refine ⟨.inl rfl,by rw [alloc_blk],_,_,hge',hcm,?_,rfl,fun _=>by rw [alloc_blk];simp [World.size_drew]⟩
        rw [alloc_blk]
        have hzs:z.cells.size=(tt el).size:=by rw [← hzl,← (hzr c).length];simp
        simp only[Array.size_append,List.size_toArray,hfl,size_zeroCells,hzs,hsz,Nat.zero_add]
        rw [← Nat.add_mul]
        exact Nat.mul_le_mul_right _ (by omega)
     ·cases h
    ·rename_i b e n'
     split at h
     ·rename_i k hb
      split at h
      ·rename_i he
       split at h
       ·rename_i hnle
        split at h
        ·rename_i hbig
         cases h
         subst he
         have hx':VR c (.slc b (tt el).size 0 n') X:=hx
         simp only[VR] at hx'
         obtain ⟨hd,hesz,a1,cap,g1,g2,g3,rfl,g5⟩:=hx'
         obtain ⟨cur,te,vo,hcur,hcsz,hvo,hvol,hvoc⟩:=(S.hr.blk b k hb).cur
         obtain ⟨_,hk2,hkrows,hkfit,_,_⟩:=S.hr.blk b k hb
         have hke:k.esz=(tt el).size:=by rw [hk2,hesz]
         rw [hke] at hkrows hkfit hvol hvoc
         rw [Nat.zero_add] at g3
         have hvt:=hvo.take n'
         have hvtl:∀ r ∈ vo.take n',r.length=(tt el).size:=fun r hr=>hvol r (List.mem_of_mem_take hr)
         have hvn:(vo.take n').length=n':=by rw [List.length_take,hvo.length];omega
         have hvtc:∀ (i:Nat) r,(vo.take n')[i]?=some r→∀ (m:Nat) u,r[m]?=some u→cur.toList[i * (tt el).size+m]?=some u:=by
          intro i r hr m u hu
          rw [List.getElem?_take] at hr
          split at hr
          ·exact hvoc i r hr m u hu
          ·cases hr
         have htake:=take_flat (cur:=cur.toList) hvtl hvtc
         rw [hvn] at htake
         have hall:=hvt.append hvs
         have hrall:=rowsOk_app (rowsOk_take hkrows n') hrows
         have hallr:=(hall.rows hrall).1
         have hlen:(k.es.take n' ++ rows).length=n'+rows.length:=by rw [List.length_append,List.length_take];omega
         by_cases hm0:rows.length=0
         ·-- nothing comes
          have hr0:rows=[]:=List.eq_nil_of_length_eq_zero hm0
          subst hr0
          have hrun:=run_append_zero (P:=P) (w:=c.w) t ty el i hu hi (some a1) a2 n' cap cap2 g1
          have hv0:vs=[]:=by simpa [VRss] using hvs
          subst hv0
          obtain ⟨H1,E1⟩:=S.hr.write (b:=b) (k:=k) hb (w':=c.w) cur te hcur hcsz (fun _ _=>rfl) rfl rfl rfl rfl ⟨(tt el).size,k.es.take n' ++ []⟩ hke.symm hrall
           (by rw [hlen];exact Nat.le_trans (Nat.mul_le_mul_right _ (by simpa using g1)) g3) _ hall
           (fun i' r hr m u hu'=>by
            have:=hvtc i' r (by simpa using hr) m u hu'
            simpa using this)
          have S1:=S.go H1 E1 (fun _ h=>.inl h)
          obtain ⟨H2,E2⟩:=HRel.rename (b:=b) (id:=id) S1.hr (k:=⟨(tt el).size,k.es.take n' ++ []⟩) (by simp [AH.put]) hid hlt
          have S2:=S1.go H2 E2 (by rintro x (rfl|hx);exact .inr hge;exact .inl hx)
          refine ⟨({ c with w:=c.w }:Cx).ren b id,.slice (some a1) n' cap,hrun,?_,?_,(fun x hx=>hx.elim .inr .inl),rfl⟩
          ·simp only[VR]
           refine ⟨.inl rfl,by simp only[Cx.ren,upd_same];exact hesz,a1,cap,g1,g2,by simp only[Cx.ren,upd_same];simpa using g3,rfl,fun hc=>by simp only[Cx.ren,upd_same];exact g5 hc⟩
          ·have e1:((s.h.put b (some ⟨(tt el).size,k.es.take n' ++ []⟩)).put b none).put id (some ⟨(tt el).size,k.es.take n' ++ []⟩)=(s.h.put b none).put id (some ⟨(tt el).size,k.es.take n' ++ []⟩):=by simp [AH.put,upd_upd]
           rw [← e1]
           exact S2
         ·obtain ⟨a2',rfl⟩:∃ a',a2=some a':=by
           cases a2 with
           | none=>exact absurd (by rw [hnil rfl];rfl) hm0
           | some a'=>exact ⟨a',rfl⟩
          by_cases hroom:n'+rows.length≤cap
          ·-- there is room
           obtain rfl:=g5 (by omega)
           rw [Nat.zero_mul] at g5 ⊢
           have hfit:n' * i.size+vs.flatten.length≤cur.size:=by
            rw [hfl,hsz,hcsz,← Nat.add_mul]
            exact Nat.le_trans (Nat.mul_le_mul_right _ hroom) g3
           have hrun:=run_append_room' (P:=P) (w:=c.w) t ty el te i hu hi (c.fm b).blk n' cap cur hcur a2' rows.length cap2 vs.flatten hfl (hcells a2' rfl) hone hroom hfit
           have hcur':(cur.toList.take (n' * i.size) ++ vs.flatten ++ cur.toList.drop (n' * i.size+vs.flatten.length))=(vo.take n' ++ vs).flatten ++ cur.toList.drop (n' * i.size+vs.flatten.length):=by
            rw [hsz,htake,List.flatten_append]
           obtain ⟨H1,E1⟩:=S.hr.write (b:=b) (k:=k) hb (w':=c.w.setRow (c.fm b).blk (cur.toList.take (n' * i.size) ++ vs.flatten ++ cur.toList.drop (n' * i.size+vs.flatten.length)).toArray) _ te
            (setRow_heap _ _ _ _ _ _ hcur) (by simp;simp at hfit;omega) (fun i' hi'=>setRow_other _ _ _ _ hi') (setRow_size' _ _ _) rfl rfl rfl ⟨(tt el).size,k.es.take n' ++ rows⟩ hke.symm hrall
            (by rw [hlen];exact Nat.le_trans (Nat.mul_le_mul_right _ hroom) g3) _ hall
            (fun i' r hr m u hu'=>by
             have:=flat_put hallr hr hu'
             rw [hcur']
             simp only[List.getElem?_toArray]
             rw [List.getElem?_append_left (List.getElem?_eq_some_iff.1 this).1]
             exact this)
           have S1:=S.go H1 E1 (fun _ h=>.inl h)
           obtain ⟨H2,E2⟩:=HRel.rename (b:=b) (id:=id) S1.hr (k:=⟨(tt el).size,k.es.take n' ++ rows⟩) (by simp [AH.put]) hid hlt
           have S2:=S1.go H2 E2 (by rintro x (rfl|hx);exact .inr hge;exact .inl hx)
           refine ⟨({ c with w:=c.w.setRow (c.fm b).blk (cur.toList.take (n' * i.size) ++ vs.flatten ++ cur.toList.drop (n' * i.size+vs.flatten.length)).toArray }:Cx).ren b id,_,hrun,?_,?_,(fun x hx=>hx.elim .inr .inl),rfl⟩
           ·simp only[VR]
            refine ⟨.inl rfl,by simp only[Cx.ren,upd_same];exact hesz,_,cap,hroom,g2,by simp only[Cx.ren,upd_same];simpa using g3,rfl,fun hc=>by simp only[Cx.ren,upd_same];simp⟩
           ·have e1:((s.h.put b (some ⟨(tt el).size,k.es.take n' ++ rows⟩)).put b none).put id (some ⟨(tt el).size,k.es.take n' ++ rows⟩)=(s.h.put b none).put id (some ⟨(tt el).size,k.es.take n' ++ rows⟩):=by simp [AH.put,upd_upd]
            rw [← e1]
            exact S2
          ·-- it grows
           unfold big at hbig
           have hnc:=nextcap_le (n:=n'+rows.length) (m:=cap) (by omega)
           have hncb:Builtin.nextslicecap (n'+rows.length) cap * i.bytes≤281474976710656:=by
            rw [hby]
            refine Nat.le_trans (Nat.mul_le_mul_right _ hnc) ?_
            rw [Nat.mul_assoc];omega
           have holds:∀ j u,(vo.take n').flatten[j]?=some u→c.w.cell? (a1.add j)=some u:=by
            intro j u hu'
            obtain ⟨i',m,row,q1,q2,q3⟩:=flat_get hvtl hu'
            have hn0:0 < n':=by have:=(List.getElem?_eq_some_iff.1 q1).1;omega
            rw [g5 (by omega),addr_add,Nat.zero_mul,Nat.zero_add,cell_of_row _ _ _ cur te (0,0) hcur,q3]
            simpa using hvtc i' row q1 m u q2
           have hrun:=run_append_grow (P:=P) (w:=c.w) t ty el i z hu hi hz a1 n' cap (vo.take n').flatten (by rw [flat_length hvtl,hvn,hsz]) holds a2' rows.length cap2 vs.flatten hfl (hcells a2' rfl) (by omega) (by omega) hncb
           obtain ⟨H0,E0⟩:=HRel.drop S.hr b
           have S0:=S.go H0 E0 (fun _ h=>.inl h)
           have hge':=grownCap_ge c.w (n'+rows.length) cap el
           have hcm:=grownCap_le_maxLen c.w (n'+rows.length) cap el (by unfold maxLen;omega)
           have hzs:z.cells.size=(tt el).size:=by rw [← hzl,← (hzr c).length];simp
           have hsize:((vo.take n').flatten.toArray ++ vs.flatten.toArray ++ Builtin.zeroCells z.cells (grownCap c.w (n'+rows.length) cap el - (n'+rows.length))).size=grownCap c.w (n'+rows.length) cap el * (tt el).size:=by
            simp only[Array.size_append,List.size_toArray,hfl,flat_length hvtl,hvn,size_zeroCells,hzs,hsz,← Nat.add_mul]
            congr 1;omega
           have S1:=S0.drew
           have S2:=S1.newHeap (id:=id) hid hlt hge ((vo.take n').flatten.toArray ++ vs.flatten.toArray ++ Builtin.zeroCells z.cells (grownCap c.w (n'+rows.length) cap el - (n'+rows.length))) el (e:=(tt el).size) hrall
            (VRss.mono (c:=c) (c':={ c with w:=c.w.drew }) ⟨fun _ h=>h,fun _ _=>rfl,fun _ h=>h,fun _ _=>rfl⟩ _ _ hall) (by rw [hlen,hsize];exact Nat.mul_le_mul_right _ hge')
            (fun i' row hrow j u hu'=>by
             have:=flat_put hallr hrow hu'
             rw [List.flatten_append] at this
             have hlt':=(List.getElem?_eq_some_iff.1 this).1
             simp only[List.append_toArray,Array.getElem?_append,List.size_toArray,hlt',if_true]
             simpa using this)
           refine ⟨_,_,hrun,?_,S2,(fun x hx=>hx.elim .inr .inl),rfl⟩
           simp only[VR]
           refine ⟨.inl rfl,by rw [alloc_blk],_,_,hge',hcm,?_,rfl,fun _=>by rw [alloc_blk];simp [World.size_drew]⟩
           rw [alloc_blk,hsize,Nat.zero_add]
           exact Nat.le_refl _
        ·cases h
       ·cases h
      ·cases h
     ·cases h
    ·-- an array,taken as a slice
     rename_i e es
     split at h
     ·rename_i he
      split at h
      ·rename_i hbig
       cases h
       obtain ⟨he,hm0⟩:=he
       subst he
       have hx':VR c (.lstx (tt el).size es) X:=hx
       simp only[VR] at hx'
       obtain ⟨a1,vo,rfl,hno,hro,hat,hvo⟩:=hx'
       have hvol:=(hvo.rows hro).1
       have hvn:vo.length=es.length:=hvo.length
       obtain ⟨a2',rfl⟩:∃ a',a2=some a':=by
        cases a2 with
        | none=>exact absurd (by rw [hnil rfl];rfl) hm0
        | some a'=>exact ⟨a',rfl⟩
       have hall:=hvo.append hvs
       have hrall:=rowsOk_app hro hrows
       have hallr:=(hall.rows hrall).1
       have hlen:(es ++ rows).length=es.length+rows.length:=List.length_append
       unfold big at hbig
       have hzs:z.cells.size=(tt el).size:=by rw [← hzl,← (hzr c).length];simp
       have hput:∀ (k:Nat),k * (tt el).size=(vo.flatten.toArray ++ vs.flatten.toArray ++ Builtin.zeroCells z.cells (k - (es.length+rows.length))).size→∀ (i':Nat) row,(vo ++ vs)[i']?=some row→∀ (j:Nat) u,row[j]?=some u→(vo.flatten.toArray ++ vs.flatten.toArray ++ Builtin.zeroCells z.cells (k - (es.length+rows.length)))[i' * (tt el).size+j]?=some u:=by
        intro k _ i' row hrow j u hu'
        have:=flat_put hallr hrow hu'
        rw [List.flatten_append] at this
        have hlt':=(List.getElem?_eq_some_iff.1 this).1
        simp only[List.append_toArray,Array.getElem?_append,List.size_toArray,hlt',if_true]
        simpa using this
       cases a1 with
       | none =>
        have he0:=hno rfl
        subst he0
        have hv0:vo=[]:=List.eq_nil_of_length_eq_zero (by simpa using hvn)
        subst hv0
        simp only[List.length_nil,Nat.zero_add] at hbig
        have hrun:=run_append_nil (P:=P) (w:=c.w) t ty el i z hu hi hz a2' rows.length cap2 vs.flatten hfl (hcells a2' rfl) (by omega) (by omega) (by rw [hby];omega)
        have S1:=S.drew
        have hS:=S1.newHeap (id:=id) hid hlt hge (vs.flatten.toArray ++ Builtin.zeroCells z.cells (grownCap c.w rows.length 0 el - rows.length)) el (e:=(tt el).size) hrows (VRss.mono (c:=c) (c':={ c with w:=c.w.drew }) ⟨fun _ h=>h,fun _ _=>rfl,fun _ h=>h,fun _ _=>rfl⟩ _ _ hvs)
         (by simp only[Array.size_append,List.size_toArray,hfl,hsz];omega)
         (fun i' row hrow j u hu'=>by
          have:=flat_put hvl hrow hu'
          simp only[Array.getElem?_append,List.size_toArray,(List.getElem?_eq_some_iff.1 this).1,if_true]
          simpa using this)
        refine ⟨_,_,hrun,?_,hS,(fun x hx=>hx.elim .inr .inl),rfl⟩
        have hge':=grownCap_ge c.w rows.length 0 el
        have hcm:=grownCap_le_maxLen c.w rows.length 0 el (by unfold maxLen;omega)
        simp only[VR,List.length_nil,Nat.zero_add]
        refine ⟨.inl rfl,by rw [alloc_blk],_,_,hge',hcm,?_,rfl,fun _=>by rw [alloc_blk];simp [World.size_drew]⟩
        rw [alloc_blk]
        simp only[Array.size_append,List.size_toArray,hfl,size_zeroCells,hzs,hsz,Nat.zero_add]
        rw [← Nat.add_mul]
        exact Nat.mul_le_mul_right _ (by omega)
       | some a1 =>
        have hnc:=nextcap_le (n:=es.length+rows.length) (m:=es.length) (by omega)
        have hncb:Builtin.nextslicecap (es.length+rows.length) es.length * i.bytes≤281474976710656:=by
         rw [hby]
         refine Nat.le_trans (Nat.mul_le_mul_right _ hnc) ?_
         rw [Nat.mul_assoc];omega
        have holds:∀ j u,vo.flatten[j]?=some u→c.w.cell? (a1.add j)=some u:=by
         intro j u hu'
         obtain ⟨i',m,row,q1,q2,q3⟩:=flat_get hvol hu'
         rcases hat with rfl|⟨bb,oo,hbb,_,hr⟩
         ·simp at hu'
         ·cases hbb
          rw [addr_add,q3,← Nat.add_assoc]
          exact hr i' row q1 m u q2
        have hrun:=run_append_grow (P:=P) (w:=c.w) t ty el i z hu hi hz a1 es.length es.length vo.flatten (by rw [flat_length hvol,hvn,hsz]) holds a2' rows.length cap2 vs.flatten hfl (hcells a2' rfl) (by omega) (by omega) hncb
        have hge':=grownCap_ge c.w (es.length+rows.length) es.length el
        have hcm:=grownCap_le_maxLen c.w (es.length+rows.length) es.length el (by unfold maxLen;omega)
        have hsize:(vo.flatten.toArray ++ vs.flatten.toArray ++ Builtin.zeroCells z.cells (grownCap c.w (es.length+rows.length) es.length el - (es.length+rows.length))).size=grownCap c.w (es.length+rows.length) es.length el * (tt el).size:=by
         simp only[Array.size_append,List.size_toArray,hfl,flat_length hvol,hvn,size_zeroCells,hzs,hsz,← Nat.add_mul]
         congr 1;omega
        have S1:=S.drew
        have S2:=S1.newHeap (id:=id) hid hlt hge (vo.flatten.toArray ++ vs.flatten.toArray ++ Builtin.zeroCells z.cells (grownCap c.w (es.length+rows.length) es.length el - (es.length+rows.length))) el (e:=(tt el).size) hrall
         (VRss.mono (c:=c) (c':={ c with w:=c.w.drew }) ⟨fun _ h=>h,fun _ _=>rfl,fun _ h=>h,fun _ _=>rfl⟩ _ _ hall) (by rw [hlen,hsize];exact Nat.mul_le_mul_right _ hge')
         (hput _ hsize.symm)
        refine ⟨_,_,hrun,?_,S2,(fun x hx=>hx.elim .inr .inl),rfl⟩
        simp only[VR]
        refine ⟨.inl rfl,by rw [alloc_blk],_,_,hge',hcm,?_,rfl,fun _=>by rw [alloc_blk];simp [World.size_drew]⟩
        rw [alloc_blk,hsize,Nat.zero_add]
        exact Nat.le_refl _
      ·cases h
     ·cases h
    ·cases h
 ·cases h
theorem SR.appendN (T:Tab P tt) {c0:Cx} {h0:AH} {c:Cx} {lb:Bid→Option Nat} {s:AS} {n:Nat} {a:Act} (S:SR c0 h0 c lb s n a) {t:Nat} {id:Bid} (hid:¬ c.dom id) (hlt:id.1 < s.h.clk) (hge:h0.clk≤id.1)
    {b:Bid} {o n' el:Nat} {k:Blk} {rows:List (List AV)} {y:AV} {X Y:Value} (hx:VL c lb (.slc b (tt el).size o n') X) (hy:VL c lb y Y) (hk:(tt t).k=.slice el) (hs0:¬ (tt el).size=0) (hsrc:asrc s.h (tt el).size y=some rows)
    (hb:s.h.at_ b=some k) (hnle:o+n'≤k.es.length) (hbig:(n'+rows.length) * (tt el).bytes≤big∧n'+rows.length≤big) (ty:TypeId) :
    ∃ c' z,(Builtin.append_ #[t,t] ty #[X,Y]).run P c.w=.ok z c'.w∧(∀ x,c'.dom x→c.dom x ∨ x=id) ∧
      ((VR c' (.slc b (tt el).size o (n'+rows.length)) z∧SR c0 h0 c' lb { s with h:=s.h.put b (some ⟨(tt el).size,k.es.take (o+n') ++ rows⟩) } n a) ∨
       (VR c' (.slc id (tt el).size 0 (n'+rows.length)) z∧SR c0 h0 c' lb { s with h:=s.h.put id (some ⟨(tt el).size,(k.es.drop o).take n' ++ rows⟩) } n a)):=by
  obtain ⟨hu,_⟩:=slice_elem T hk
  have hkel:=T.elem t el (by rw [hk];rfl)
  obtain ⟨i,z,hi,hsz,hby,hz,hzr,hzl,hzc⟩:=(T.all el hkel).info
  have hyn:VR c y Y:=by
    cases y <;> first|exact hy|(simp [asrc] at hsrc)
  obtain ⟨a2,cap2,vs,rfl,hrows,hvs,hnil,hcells⟩:=asrc_sound S.hr hyn hsrc
  obtain ⟨hvl,hone⟩:=hvs.rows hrows
  have hfl:vs.flatten.length=rows.length * i.size:=by rw [flat_length hvl,hvs.length,hsz]
  have hx':VR c (.slc b (tt el).size o n') X:=hx
  simp only[VR] at hx'
  obtain ⟨hd,hesz,a1,cap,g1,g2,g3,rfl,g5⟩:=hx'
  obtain ⟨cur,te,vo,hcur,hcsz,hvo,hvol,hvoc⟩:=(S.hr.blk b k hb).cur
  obtain ⟨_,hk2,hkrows,hkfit,_,_⟩:=S.hr.blk b k hb
  have hke:k.esz=(tt el).size:=by rw [hk2,hesz]
  rw [hke] at hkrows hkfit hvol hvoc
  have hvt:=hvo.take (o+n')
  have hvtl:∀ r ∈ vo.take (o+n'),r.length=(tt el).size:=fun r hr=>hvol r (List.mem_of_mem_take hr)
  have hvn:(vo.take (o+n')).length=o+n':=by rw [List.length_take,hvo.length];omega
  have hvtc:∀ (i:Nat) r,(vo.take (o+n'))[i]?=some r→∀ (m:Nat) u,r[m]?=some u→cur.toList[i * (tt el).size+m]?=some u:=by
    intro i r hr m u hu
    rw [List.getElem?_take] at hr
    split at hr
    · exact hvoc i r hr m u hu
    · cases hr
  have htake:=take_flat (cur:=cur.toList) hvtl hvtc
  rw [hvn] at htake
  have hall:=hvt.append hvs
  have hrall:=rowsOk_app (rowsOk_take hkrows (o+n')) hrows
  have hallr:=(hall.rows hrall).1
  have hlen:(k.es.take (o+n') ++ rows).length=o+n'+rows.length:=by rw [List.length_append,List.length_take];omega
  have hoff:o * i.size+n' * i.size=(o+n') * i.size:=(Nat.add_mul _ _ _).symm
  by_cases hm0:rows.length=0
  · -- nothing comes
    have hr0:rows=[]:=List.eq_nil_of_length_eq_zero hm0
    subst hr0
    have hrun:=run_append_zero (P:=P) (w:=c.w) t ty el i hu hi (some a1) a2 n' cap cap2 g1
    have hv0:vs=[]:=by simpa [VRss] using hvs
    subst hv0
    obtain ⟨H1,E1⟩:=S.hr.write (b:=b) (k:=k) hb (w':=c.w) cur te hcur hcsz (fun _ _=>rfl) rfl rfl rfl rfl ⟨(tt el).size,k.es.take (o+n') ++ []⟩ hke.symm hrall
      (by rw [hlen];exact Nat.le_trans (Nat.mul_le_mul_right _ (by simpa using g1)) g3) _ hall
      (fun i' r hr m u hu'=>by
        have:=hvtc i' r (by simpa using hr) m u hu'
        simpa using this)
    have S1:=S.go H1 E1 (fun _ h=>.inl h)
    refine ⟨{ c with w:=c.w },.slice (some a1) n' cap,hrun,fun x hx=>.inl hx,.inl ⟨?_,S1⟩⟩
    · simp only[VR]
      refine ⟨hd,hesz,a1,cap,g1,g2,g3,rfl,fun hc=>g5 hc⟩
  · obtain ⟨a2',rfl⟩:∃ a',a2=some a':=by
      cases a2 with
      | none=>exact absurd (by rw [hnil rfl];rfl) hm0
      | some a'=>exact ⟨a',rfl⟩
    by_cases hroom:n'+rows.length≤cap
    · -- there is room
      obtain rfl:=g5 (by omega)
      have hfit:o * (tt el).size+n' * i.size+vs.flatten.length≤cur.size:=by
        rw [hfl,hsz,hcsz,← Nat.add_mul,← Nat.add_mul]
        exact Nat.le_trans (Nat.mul_le_mul_right _ (by omega)) g3
      have hrun:=run_append_roomO (P:=P) (w:=c.w) t ty el te i hu hi (c.fm b).blk (o * (tt el).size) n' cap cur hcur a2' rows.length cap2 vs.flatten hfl (hcells a2' rfl) hone hroom hfit
      have hcur':(cur.toList.take (o * (tt el).size+n' * i.size) ++ vs.flatten ++ cur.toList.drop (o * (tt el).size+n' * i.size+vs.flatten.length))=(vo.take (o+n') ++ vs).flatten ++ cur.toList.drop (o * (tt el).size+n' * i.size+vs.flatten.length):=by
        rw [hsz,← Nat.add_mul,htake,List.flatten_append]
      obtain ⟨H1,E1⟩:=S.hr.write (b:=b) (k:=k) hb (w':=c.w.setRow (c.fm b).blk (cur.toList.take (o * (tt el).size+n' * i.size) ++ vs.flatten ++ cur.toList.drop (o * (tt el).size+n' * i.size+vs.flatten.length)).toArray) _ te
        (setRow_heap _ _ _ _ _ _ hcur) (by simp;simp at hfit;omega) (fun i' hi'=>setRow_other _ _ _ _ hi') (setRow_size' _ _ _) rfl rfl rfl ⟨(tt el).size,k.es.take (o+n') ++ rows⟩ hke.symm hrall
        (by rw [hlen];exact Nat.le_trans (Nat.mul_le_mul_right _ (by omega)) g3) _ hall
        (fun i' r hr m u hu'=>by
          have:=flat_put hallr hr hu'
          rw [hcur']
          simp only[List.getElem?_toArray]
          rw [List.getElem?_append_left (List.getElem?_eq_some_iff.1 this).1]
          exact this)
      have S1:=S.go H1 E1 (fun _ h=>.inl h)
      refine ⟨{ c with w:=c.w.setRow (c.fm b).blk (cur.toList.take (o * (tt el).size+n' * i.size) ++ vs.flatten ++ cur.toList.drop (o * (tt el).size+n' * i.size+vs.flatten.length)).toArray },_,hrun,fun x hx=>.inl hx,.inl ⟨?_,S1⟩⟩
      · simp only[VR]
        refine ⟨hd,hesz,_,cap,hroom,g2,g3,rfl,fun hc=>by simp⟩
    · -- it grows
      have hdt:=(hvo.drop o).take n'
      have hdtl:∀ r ∈ (vo.drop o).take n',r.length=(tt el).size:=fun r hr=>hvol r (List.mem_of_mem_drop (List.mem_of_mem_take hr))
      have hdn:((vo.drop o).take n').length=n':=by rw [List.length_take,List.length_drop,hvo.length];omega
      have hdall:=hdt.append hvs
      have hdr:rowsOk (tt el).size (k.es.drop o):=fun r hr=>hkrows r (List.mem_of_mem_drop hr)
      have hdrall:=rowsOk_app (rowsOk_take hdr n') hrows
      have hdallr:=(hdall.rows hdrall).1
      have hdlen:((k.es.drop o).take n' ++ rows).length=n'+rows.length:=by rw [List.length_append,List.length_take,List.length_drop];omega
      unfold big at hbig
      have hnc:=nextcap_le (n:=n'+rows.length) (m:=cap) (by omega)
      have hncb:Builtin.nextslicecap (n'+rows.length) cap * i.bytes≤281474976710656:=by
        rw [hby]
        refine Nat.le_trans (Nat.mul_le_mul_right _ hnc) ?_
        rw [Nat.mul_assoc];omega
      have holds:∀ j u,((vo.drop o).take n').flatten[j]?=some u→c.w.cell? (a1.add j)=some u:=by
        intro j u hu'
        obtain ⟨i',m,row,q1,q2,q3⟩:=flat_get hdtl hu'
        have hn0:i' < n':=by have:=(List.getElem?_eq_some_iff.1 q1).1;omega
        rw [List.getElem?_take,if_pos hn0,List.getElem?_drop] at q1
        rw [g5 (by omega),addr_add,cell_of_row _ _ _ cur te (0,0) hcur,q3]
        have:=hvoc (o+i') row q1 m u q2
        rw [Nat.add_mul,Nat.add_assoc] at this
        simpa using this
      have hrun:=run_append_grow (P:=P) (w:=c.w) t ty el i z hu hi hz a1 n' cap ((vo.drop o).take n').flatten (by rw [flat_length hdtl,hdn,hsz]) holds a2' rows.length cap2 vs.flatten hfl (hcells a2' rfl) (by omega) (by omega) hncb
      have hge':=grownCap_ge c.w (n'+rows.length) cap el
      have hcm:=grownCap_le_maxLen c.w (n'+rows.length) cap el (by unfold maxLen;omega)
      have hzs:z.cells.size=(tt el).size:=by rw [← hzl,← (hzr c).length];simp
      have hsize:(((vo.drop o).take n').flatten.toArray ++ vs.flatten.toArray ++ Builtin.zeroCells z.cells (grownCap c.w (n'+rows.length) cap el - (n'+rows.length))).size=grownCap c.w (n'+rows.length) cap el * (tt el).size:=by
        simp only[Array.size_append,List.size_toArray,hfl,flat_length hdtl,hdn,size_zeroCells,hzs,hsz,← Nat.add_mul]
        congr 1;omega
      have S1:=S.drew
      have S2:=S1.newHeap (id:=id) hid hlt hge (((vo.drop o).take n').flatten.toArray ++ vs.flatten.toArray ++ Builtin.zeroCells z.cells (grownCap c.w (n'+rows.length) cap el - (n'+rows.length))) el (e:=(tt el).size) hdrall
        (VRss.mono (c:=c) (c':={ c with w:=c.w.drew }) ⟨fun _ h=>h,fun _ _=>rfl,fun _ h=>h,fun _ _=>rfl⟩ _ _ hdall) (by rw [hdlen,hsize];exact Nat.mul_le_mul_right _ hge')
        (fun i' row hrow j u hu'=>by
          have:=flat_put hdallr hrow hu'
          rw [List.flatten_append] at this
          have hlt':=(List.getElem?_eq_some_iff.1 this).1
          simp only[List.append_toArray,Array.getElem?_append,List.size_toArray,hlt',if_true]
          simpa using this)
      refine ⟨_,_,hrun,?_,.inr ⟨?_,S2⟩⟩
      · intro x hx;exact hx.elim .inr .inl
      simp only[VR]
      refine ⟨.inl rfl,by rw [alloc_blk],_,_,hge',hcm,?_,rfl,fun _=>by rw [alloc_blk];simp [World.size_drew]⟩
      rw [alloc_blk,hsize,Nat.zero_add]
      exact Nat.le_refl _
def aappN (tt:Nat→TI) (h:AH) (t:Nat) (id:Bid) (x y:AV) (K:AV→AH→Prop):Prop :=
 (∃ b o n k el rows,x=.slc b (tt el).size o n∧(tt t).k=.slice el∧¬ (tt el).size=0∧asrc h (tt el).size y=some rows∧h.at_ b=some k∧o+n≤k.es.length∧((n+rows.length) * (tt el).bytes≤big∧n+rows.length≤big) ∧
  K (.slc b (tt el).size o (n+rows.length)) (h.put b (some ⟨(tt el).size,k.es.take (o+n) ++ rows⟩))∧K (.slc id (tt el).size 0 (n+rows.length)) (h.put id (some ⟨(tt el).size,(k.es.drop o).take n ++ rows⟩))) ∨
 ∃ el es rows,x=.lstx (tt el).size es∧(tt t).k=.slice el∧asrc h (tt el).size y=some rows∧((es.length+rows.length) * (tt el).bytes≤big∧es.length+rows.length≤big)∧K (.lst (tt el).size (es ++ rows)) h
theorem aappN_mono {tt:Nat→TI} {h:AH} {t:Nat} {id:Bid} {x y:AV} {K K':AV→AH→Prop} (H:aappN tt h t id x y K) (hk:∀ v h',K v h'→K' v h'):aappN tt h t id x y K':=by
 rcases H with ⟨b,o,n,k,el,rows,h1,h2,h3,h4,h5,h6,h7,h8,h9⟩|⟨el,es,rows,h1,h2,h3,h4,h5⟩
 ·exact .inl ⟨b,o,n,k,el,rows,h1,h2,h3,h4,h5,h6,h7,hk _ _ h8,hk _ _ h9⟩
 ·exact .inr ⟨el,es,rows,h1,h2,h3,h4,hk _ _ h5⟩
def acopy (tt:Nat→TI) (h:AH) (t:Nat) (x y:AV):Option (Nat × AH) :=
 match (tt t).k with
 | .slice el=>match asrc h (tt el).size y with
  | none=>none
  | some rows=>match x with
   | .slc b e 0 n=>match h.at_ b with
    | some k=>if e=(tt el).size∧n=k.es.length∧n≤rows.length then some (n,h.put b (some ⟨k.esz,rows.take n⟩)) else none
    | none=>none
   | _=>none
 | _=>none
theorem flat_take {α:Type}:∀ {vs:List (List α)} {e:Nat},(∀ r ∈ vs,r.length=e)→∀ n,vs.flatten.take (n * e)=(vs.take n).flatten
 | [],e,_,n=>by simp
 | r :: vs,e,h,0=>by simp
 | r :: vs,e,h,n+1=>by
  have hr:r.length=e:=h r (by simp)
  have ih:=flat_take (vs:=vs) (e:=e) (fun r hr=>h r (by simp [hr])) n
  rw [List.flatten_cons,List.take_succ_cons,List.flatten_cons,Nat.add_mul,Nat.one_mul,← ih,List.take_append,hr]
  rw [List.take_of_length_le (by omega)]
  congr 2
  omega
theorem AH.put_self {h:AH} {b:Bid} {k:Blk} (hb:h.at_ b=some k):h.put b (some k)=h:=by
 cases h
 unfold AH.put
 congr 1
 funext z
 simp only[upd_apply]
 split
 ·rename_i e;rw [e];exact hb.symm
 ·rfl
theorem SR.copy (T:Tab P tt) {c0:Cx} {h0:AH} {c:Cx} {lb:Bid→Option Nat} {s:AS} {n:Nat} {a:Act} (S:SR c0 h0 c lb s n a) {t:Nat}
  {x y:AV} {X Y:Value} (hx:VL c lb x X) (hy:VL c lb y Y) {m:Nat} {h':AH} (h:acopy tt s.h t x y=some (m,h')) (t' ty:TypeId) :
  ∃ c',(Builtin.copy_ #[t,t'] ty #[X,Y]).run P c.w=.ok (.int .i64 m) c'.w∧SR c0 h0 c' lb { s with h:=h' } n a∧c'.dom=c.dom∧h'.clk=s.h.clk:=by
 unfold acopy at h
 split at h
 ·rename_i el hk
  obtain ⟨hu,_⟩:=slice_elem T hk
  have hkel:=T.elem t el (by rw [hk];rfl)
  obtain ⟨i,z,hi,hsz,hby,hz,hzr,hzl,hzc⟩:=(T.all el hkel).info
  split at h
  ·cases h
  ·rename_i rows hsrc
   have hyn:VR c y Y:=by
    cases y <;> first|exact hy|(simp [asrc] at hsrc)
   obtain ⟨a2,cap2,vs,rfl,hrows,hvs,hnil,hcells⟩:=asrc_sound S.hr hyn hsrc
   obtain ⟨hvl,hone⟩:=hvs.rows hrows
   split at h
   ·rename_i b e n'
    split at h
    ·rename_i k hb
     split at h
     ·rename_i hc
      obtain ⟨rfl,rfl,hle⟩:=hc
      cases h
      have hx':VR c (.slc b (tt el).size 0 k.es.length) X:=hx
      simp only[VR] at hx'
      obtain ⟨hd,hesz,a1,cap,g1,g2,g3,rfl,g5⟩:=hx'
      obtain ⟨cur,te,vo,hcur,hcsz,hvo,hvol,hvoc⟩:=(S.hr.blk b k hb).cur
      obtain ⟨_,hk2,hkrows,hkfit,_,_⟩:=S.hr.blk b k hb
      have hke:k.esz=(tt el).size:=by rw [hk2,hesz]
      rw [hke] at hkrows hkfit hvol hvoc
      have hvt:=hvs.take k.es.length
      have hvtl:∀ r ∈ vs.take k.es.length,r.length=(tt el).size:=fun r hr=>hvl r (List.mem_of_mem_take hr)
      have hvn:(vs.take k.es.length).length=k.es.length:=by rw [List.length_take,hvs.length];omega
      have hft:vs.flatten.take (k.es.length * (tt el).size)=(vs.take k.es.length).flatten:=flat_take hvl _
      have hfl:(vs.take k.es.length).flatten.length=k.es.length * i.size:=by rw [flat_length hvtl,hvn,hsz]
      have hrt:=rowsOk_take hrows k.es.length
      have hmin:Nat.min rows.length k.es.length=k.es.length:=Nat.min_eq_right hle
      have hgo:((k.es.length:Nat):Int)=((k.es.length:Nat):Int):=rfl
      cases a2 with
      | none =>
       have hr0:rows=[]:=hnil rfl
       have hn0:k.es.length=0:=by rw [hr0] at hle;simpa using hle
       have hk0:k.es=[]:=List.eq_nil_of_length_eq_zero hn0
       have e1:s.h.put b (some ⟨k.esz,rows.take k.es.length⟩)=s.h:=by
        rw [hn0,List.take_zero,← hk0]
        exact AH.put_self hb
       rw [e1]
       refine ⟨c,?_,S,rfl,rfl⟩
       rw [hn0,hr0]
       simp [Builtin.copy_,run_underlying hu,sizeOf,typeInfo,hi,Builtin.lenOf,Builtin.firstCells,storeCells,goInt]
      | some a2 =>
       have hf:=run_firstCells_some (P:=P) c.w i.size k.es.length a2 rows.length cap2 (vs.take k.es.length).flatten hfl (fun j u hu'=>hcells a2 rfl j u (by
        rw [← hft,List.getElem?_take] at hu'
        split at hu'
        ·exact hu'
        ·cases hu'))
       by_cases hn0:k.es.length=0
       ·have hk0:k.es=[]:=List.eq_nil_of_length_eq_zero hn0
        have e1:s.h.put b (some ⟨k.esz,rows.take k.es.length⟩)=s.h:=by
         rw [hn0,List.take_zero,← hk0]
         exact AH.put_self hb
        rw [e1]
        refine ⟨c,?_,S,rfl,rfl⟩
        rw [hn0] at hf hmin ⊢
        simp [Builtin.copy_,run_underlying hu,sizeOf,typeInfo,hi,Builtin.lenOf,hf,storeCells,goInt]
       ·obtain rfl:=g5 (by omega)
        rw [Nat.zero_mul] at g5 ⊢
        have hone':∀ u ∈ (vs.take k.es.length).flatten,u.oneCell'=true:=fun u hu'=>hone u (by
         rw [← hft] at hu';exact List.mem_of_mem_take hu')
        have hst:=run_storeCells_at (P:=P) (c.fm b).blk 0 te (vs.take k.es.length).flatten 0 cur c.w hcur (by rw [hfl,hsz,hcsz];simpa using hkfit) hone'
        simp only[Nat.add_zero,Nat.zero_add,List.take_zero,List.nil_append] at hst
        have hcl:(vs.take k.es.length).flatten.length≤cur.size:=by rw [hfl,hsz,hcsz];exact hkfit
        obtain ⟨H1,E1⟩:=S.hr.write (b:=b) (k:=k) hb (w':=c.w.setRow (c.fm b).blk ((vs.take k.es.length).flatten ++ cur.toList.drop (vs.take k.es.length).flatten.length).toArray) _ te
         (setRow_heap _ _ _ _ _ _ hcur) (by simp at hcl ⊢;omega) (fun i' hi'=>setRow_other _ _ _ _ hi') (setRow_size' _ _ _) rfl rfl rfl ⟨k.esz,rows.take k.es.length⟩ rfl (by show rowsOk k.esz _;rw [hke];exact hrt)
         (by show (rows.take k.es.length).length * k.esz≤_;rw [hke,List.length_take,Nat.min_eq_left hle];exact hkfit) _ hvt
         (fun i' r hr m u hu'=>by
          show _[i' * k.esz+m]?=_
          rw [hke]
          have:=flat_put hvtl hr hu'
          simp only[List.getElem?_toArray]
          rw [List.getElem?_append_left (List.getElem?_eq_some_iff.1 this).1]
          exact this)
        refine ⟨_,?_,S.go H1 E1 (fun _ h=>.inl h),rfl,rfl⟩
        simp [Builtin.copy_,run_underlying hu,sizeOf,typeInfo,hi,Builtin.lenOf,hmin,hf,hst,goInt]
     ·cases h
    ·cases h
   ·cases h
 ·cases h
end Go.Av
namespace Go.Av
variable {P:Program} {tt:Nat→TI}
def absl (tt:Nat→TI) (ev:Operand→AV) (t n:Nat) (ps:List (Nat × Operand)):Option (Nat × List (List AV)) :=
 match (tt t).k with
 | .slice el =>
  if n≤16777216∧n * (tt el).size≤16777216∧ps.map (·.1)=List.range n∧(ps.all fun p=>noL (ev p.2) && ((ev p.2).cells.length == (tt el).size) && (ev p.2).cells.all AV.cell)=true then
   some ((tt el).size,ps.map fun p=>(ev p.2).cells)
  else none
 | _=>none
theorem fill_seq (size:Nat):∀ (ys:List Value) (k:Nat) (pre rest:List Value),pre.length=k * size→(∀ y ∈ ys,y.cells.size=size)→rest.length=ys.length * size →
  Instr.fill (fun i=>some (i * size,size)) (pre ++ rest).toArray ((ys.zipIdx k).map fun (p:Value × Nat)=>(p.2,p.1))=some (pre ++ (ys.map (·.cells.toList)).flatten).toArray
 | [],k,pre,rest,hp,_,hr=>by
  have:rest=[]:=List.eq_nil_of_length_eq_zero (by simpa using hr)
  subst this
  simp [Instr.fill]
 | y :: ys,k,pre,rest,hp,hy,hr=>by
  have hy0:y.cells.size=size:=hy y (by simp)
  have hrl:rest.length=size+ys.length * size:=by rw [hr,List.length_cons,Nat.add_mul];omega
  simp only[List.zipIdx_cons,List.map_cons,Instr.fill]
  rw [if_neg (by simp [hy0];omega)]
  have hfl:=afill_foldl (pre ++ rest) y.cells.toList (k * size) (by simp only[List.length_append,Array.length_toList];omega)
  rw [show (y.cells.zipIdx.foldl (fun cs x=>match x with|(c,j)=>cs.setIfInBounds (k * size+j) c) (pre ++ rest).toArray)=((pre ++ y.cells.toList) ++ rest.drop size).toArray from ?_]
  ·rw [fill_seq size ys (k+1) (pre ++ y.cells.toList) (rest.drop size) (by simp [hp,hy0,Nat.add_mul]) (fun z hz=>hy z (by simp [hz])) (by rw [List.length_drop];omega)]
   simp
  ·have h1:(pre ++ rest).take (k * size)=pre:=by rw [← hp];exact List.take_left
   have h2:(pre ++ rest).drop (k * size+y.cells.toList.length)=rest.drop size:=by
    have h3:k * size+y.cells.toList.length=pre.length+size:=by rw [hp,Array.length_toList,hy0]
    rw [h3,← List.drop_drop,List.drop_left]
   rw [h1,h2] at hfl
   rw [← hfl]
theorem absl_sound (T:Tab P tt) {c:Cx} {lb:Bid→Option Nat} {ev:Operand→AV} {ρ:Operand→Value} (hE:∀ x,VL c lb (ev x) (ρ x)) {t n:Nat} {ps:Array (Nat × Operand)} {e:Nat} {es:List (List AV)} (h:absl tt ev t n ps.toList=some (e,es)) :
  ∃ vs el,es.length=n∧rowsOk e es∧VRss c es vs∧(∀ w,(Instr.buildSlice t n (ps.map fun (i,x)=>(i,ρ x))).run P w=.ok (.slice (some ⟨w.heap.size,0,none⟩) n n) (w.alloc (.cells vs.flatten.toArray el)))∧n≤maxLen:=by
 unfold absl at h
 split at h
 ·rename_i el hk
  split at h
  ·rename_i hc
   obtain ⟨hn1,hn,hr,ha⟩:=hc
   cases h
   obtain ⟨hu,_⟩:=slice_elem T hk
   have hkel:=T.elem t el (by rw [hk];rfl)
   obtain ⟨i,z,hi,hsz,hby,hz,hzr,hzl,hzc⟩:=(T.all el hkel).info
   have hpl:ps.toList.length=n:=by have:=congrArg List.length hr;simpa using this
   have hall:∀ p ∈ ps.toList,noL (ev p.2)=true∧(ev p.2).cells.length=(tt el).size∧(ev p.2).cells.all AV.cell=true:=by
    intro p hp
    have:=List.all_eq_true.1 ha p hp
    simp only[Bool.and_eq_true,beq_iff_eq] at this
    exact ⟨this.1.1,this.1.2,this.2⟩
   have hrows:rowsOk (tt el).size (ps.toList.map fun p=>(ev p.2).cells):=by
    intro r hr'
    obtain ⟨p,hp,rfl⟩:=List.mem_map.1 hr'
    exact ⟨(hall p hp).2.1,(hall p hp).2.2⟩
   have hvs:VRss c (ps.toList.map fun p=>(ev p.2).cells) (ps.toList.map fun p=>(ρ p.2).cells.toList):=by
    refine VRss.of_get (by simp) (fun j v x hv hx=>?_)
    rw [List.getElem?_map] at hv hx
    cases hj:ps.toList[j]? with
    | none=>simp [hj] at hv
    | some p =>
     simp only[hj,Option.map_some,Option.some.injEq] at hv hx
     subst hv hx
     have:=hall p (List.mem_of_getElem? hj)
     exact ((hE p.2).vr this.1).cells this.2.2
   refine ⟨_,el,by simpa using hpl,hrows,hvs,fun w=>?_,?_⟩
   ·have hys:∀ y ∈ ps.toList.map (fun p=>ρ p.2),y.cells.size=i.size:=by
     intro y hy
     obtain ⟨p,hp,rfl⟩:=List.mem_map.1 hy
     have:=hall p hp
     have hl:=(((hE p.2).vr this.1).cells this.2.2).length
     rw [hsz,← this.2.1,← hl];simp
    have hq:(ps.map fun (i,x)=>(i,ρ x)).toList=((ps.toList.map fun p=>ρ p.2).zipIdx 0).map fun (p:Value × Nat)=>(p.2,p.1):=by
     apply List.ext_getElem?
     intro j
     simp only[Array.toList_map,List.getElem?_map,List.getElem?_zipIdx,Option.map_map]
     cases hj:ps.toList[j]? with
     | none=>simp
     | some p =>
      have h1:(ps.toList.map (·.1))[j]?=some p.1:=by rw [List.getElem?_map,hj];rfl
      rw [hr,List.getElem?_range (by rw [← hpl];exact (List.getElem?_eq_some_iff.1 hj).1)] at h1
      simp only[Option.some.injEq] at h1
      simp [h1]
    have hzs:z.cells.size=(tt el).size:=by rw [← hzl,← (hzr c).length];simp
    have hfill:∀ zs:List Value,zs.length=n * i.size→Instr.fill (fun j=>some (j * i.size,i.size)) zs.toArray (ps.map fun (i,x)=>(i,ρ x)).toList=some ((ps.toList.map fun p=>(ρ p.2).cells.toList).flatten).toArray:=by
     intro zs hzs'
     rw [hq]
     have:=fill_seq i.size (ps.toList.map fun p=>ρ p.2) 0 [] zs (by simp) hys (by simpa [hpl] using hzs')
     simp only[List.nil_append,List.map_map] at this
     rw [this]
     rfl
    unfold Instr.buildSlice
    simp only[Sem.run_bind,run_underlying hu,Result.andThen_ok,run_sizeOf' hi]
    rw [if_neg (by rw [hsz];omega)]
    by_cases h0:n * i.size=0
    ·have:=hfill [] (by simp [h0])
     simp only[h0,if_true,Sem.run_bind,Sem.run_pure,Result.andThen_ok]
     have h':Instr.fill (fun j=>some (j * i.size,i.size)) ((Array.range 0).map fun x=>(#[]:Array Value)[x % (#[]:Array Value).size]!) (ps.map fun (i,x)=>(i,ρ x)).toList=some ((ps.toList.map fun p=>(ρ p.2).cells.toList).flatten).toArray:=by
      have e:((Array.range 0).map fun x=>(#[]:Array Value)[x % (#[]:Array Value).size]!)=([]:List Value).toArray:=by simp
      rw [e];exact this
     simp only[h']
     simp [newRow,newObj,Sem.run]
    ·have h':Instr.fill (fun j=>some (j * i.size,i.size)) ((Array.range (n * i.size)).map fun x=>z.cells[x % z.cells.size]!) (ps.map fun (i,x)=>(i,ρ x)).toList=some ((ps.toList.map fun p=>(ρ p.2).cells.toList).flatten).toArray:=by
      have e:((Array.range (n * i.size)).map fun x=>z.cells[x % z.cells.size]!)=((Array.range (n * i.size)).map fun x=>z.cells[x % z.cells.size]!).toList.toArray:=(Array.toArray_toList).symm
      rw [e];exact hfill _ (by simp)
     simp only[h0,if_false,Sem.run_bind,Sem.run_pure,Result.andThen_ok,run_zeroValue' hi hz,h']
     simp [newRow,newObj,Sem.run]
   ·unfold maxLen
    omega
  ·cases h
 ·cases h
def amake (tt:Nat→TI) (t:Nat):AV→AV→Option (Nat × List (List AV) × Nat)
 | .int _ l,.int _ c=>match (tt t).k with
  | .slice el=>if 0≤l∧l≤c∧c * (tt el).bytes≤70368744177664∧c≤70368744177664 then some ((tt el).size,List.replicate l.toNat (tt el).zero,l.toNat) else none
  | _=>none
 | _,_=>none
theorem madeCells_get (z:List Value) (n i j:Nat) (hj:j < z.length) (h:i * z.length+j < n):(madeCells z.toArray n)[i * z.length+j]?=z[j]?:=by
 simp only[madeCells,List.size_toArray]
 rw [Array.getElem?_map,Array.getElem?_range,if_pos h]
 have hm:(i * z.length+j) % z.length=j:=by rw [Nat.mul_comm,Nat.mul_add_mod];exact Nat.mod_eq_of_lt hj
 simp [hm,hj]
theorem amake_sound (T:Tab P tt) {c:Cx} {lb:Bid→Option Nat} {t:Nat} {u v:AV} {x y:Value} (hx:VL c lb u x) (hy:VL c lb v y) {e n:Nat} {es:List (List AV)} (h:amake tt t u v=some (e,es,n)) :
  ∃ cur vs el cap,es.length=n∧n≤cap∧cap≤maxLen∧cap * e≤Array.size cur∧rowsOk e es∧VRss c es vs∧(∀ (i:Nat) row,vs[i]?=some row→∀ (j:Nat) v,row[j]?=some v→cur[i * e+j]?=some v) ∧
   ∀ w,(Instr.makeSlice t x y).run P w=.ok (.slice (some ⟨w.heap.size,0,none⟩) n cap) (w.alloc (.cells cur el)):=by
 cases u <;> cases v <;> simp only[amake,reduceCtorEq] at h
 rename_i k l k' cc
 rw [VL_int] at hx hy
 subst hx hy
 split at h
 ·rename_i el hk
  split at h
  ·rename_i hc
   cases h
   obtain ⟨hu,_⟩:=slice_elem T hk
   have hkel:=T.elem t el (by rw [hk];rfl)
   obtain ⟨i,z,hi,hsz,hby,hz,hzr,hzl,hzc⟩:=(T.all el hkel).info
   have hzs:z.cells.toList.length=(tt el).size:=by rw [← hzl,← (hzr c).length]
   refine ⟨madeCells z.cells (cc.toNat * i.size),List.replicate l.toNat z.cells.toList,el,cc.toNat,by simp,by omega,by unfold maxLen;omega,by rw [size_madeCells,hsz];exact Nat.le_refl _,?_,?_,?_,fun w=>?_⟩
   ·intro r hr
    obtain rfl:=(List.mem_replicate.1 hr).2
    exact ⟨hzl,hzc⟩
   ·refine VRss.of_get (by simp) (fun j v x hv hx=>?_)
    rw [List.getElem?_replicate] at hv hx
    split at hv
    ·simp_all
     subst hv hx
     exact hzr c
    ·cases hv
   ·intro i' row hrow j v hv
    rw [List.getElem?_replicate] at hrow
    split at hrow
    ·rename_i hlt
     cases hrow
     have hj:j < z.cells.toList.length:=(List.getElem?_eq_some_iff.1 hv).1
     have:=madeCells_get z.cells.toList (cc.toNat * i.size) i' j hj (by
      rw [hzs] at hj ⊢;rw [hsz]
      have:(i'+1) * (tt el).size≤cc.toNat * (tt el).size:=Nat.mul_le_mul_right _ (by omega)
      rw [Nat.add_mul,Nat.one_mul] at this;omega)
     rw [hzs] at this
     rw [Array.toArray_toList] at this
     rw [this,hv]
    ·cases hrow
   ·have hb:(i.bytes:Int) * cc≤281474976710656:=by rw [hby,Int.mul_comm];omega
    exact run_make w t el i z hu hi hz k k' l cc hc.1 hc.2.1 hb (by omega)
  ·cases h
 ·cases h
def alen (ti:TI):AV→Option Int
 | .slc _ _ _ n=>match ti.k with
  | .slice _=>some n
  | _=>none
 | .lst _ es=>match ti.k with
  | .slice _=>some es.length
  | _=>none
 | .nils=>match ti.k with
  | .slice _=>some 0
  | _=>none
 | .str s=>match ti.k with
  | .str=>some s.length
  | _=>none
 | _=>none
theorem alen_sound (T:Tab P tt) {c:Cx} {lb:Bid→Option Nat} {t:Nat} {v:AV} {x:Value} (hx:VL c lb v x) {n:Int} (h:alen (tt t) v=some n) (ats:Array TypeId) (hat:ats[0]?=some t) (ty:TypeId) (w:World) :
  (Builtin.len_ ats ty #[x]).run P w=.ok (.int .i64 n) w:=by
 unfold Builtin.len_
 simp only[hat]
 cases v <;> simp only[alen,reduceCtorEq] at h
 all_goals
  split at h
  all_goals try (cases h;done)
  all_goals
   rename_i hk
   cases h
 ·
  have hu:P.underlying t=some .string:=by have:=(T.good hk (by simp)).kind;rw [hk] at this;exact this
  have hx':VR c (.str _) x:=hx
  simp only[VR] at hx'
  subst hx'
  simp [run_underlying hu,ba_size,goInt]
 ·
  obtain ⟨hu,_⟩:=slice_elem T hk
  have hx':VR c .nils x:=hx
  simp only[VR] at hx'
  subst hx'
  simp [run_underlying hu,goInt]
 ·
  obtain ⟨hu,_⟩:=slice_elem T hk
  have hx':VR c (.slc _ _ _ _) x:=hx
  simp only[VR] at hx'
  obtain ⟨_,_,a,cap,_,_,_,rfl,_⟩:=hx'
  simp [run_underlying hu,goInt]
 ·
  obtain ⟨hu,_⟩:=slice_elem T hk
  have hx':VR c (.lst _ _) x:=hx
  simp only[VR] at hx'
  obtain ⟨a,cap,vs,rfl,_⟩:=hx'
  simp [run_underlying hu,goInt]
def aminmax (mx:Bool) (k:IntKind) (a:Int):List AV→Option AV
 | []=>some (.int k a)
 | .int _ b :: vs=>aminmax mx k (if mx then max a b else min a b) vs
 | _=>none
def amm (mx:Bool):List AV→Option AV
 | .int k a :: vs=>aminmax mx k a vs
 | _=>none
theorem amm_sound {c:Cx} {lb:Bid→Option Nat} {mx:Bool}:∀ {vs:List AV} {xs:List Value} {k:IntKind} {a:Int} {r:AV},xs.length=vs.length→(∀ (i:Nat) v x,vs[i]?=some v→xs[i]?=some x→VL c lb v x)→aminmax mx k a vs=some r →
  ∃ z,VL c lb r z∧∀ w,(xs.foldlM (if mx then Builtin.max2 else Builtin.min2) (.int k a)).run P w=.ok z w
 | [],xs,k,a,r,hl,_,h=>by
  obtain rfl:xs=[]:=List.eq_nil_of_length_eq_zero (by simpa using hl)
  simp only[aminmax,Option.some.injEq] at h
  subst h
  exact ⟨_,VL_int.2 rfl,fun w=>rfl⟩
 | v :: vs,[],_,_,_,hl,_,_=>by simp at hl
 | v :: vs,x :: xs,k,a,r,hl,hv,h=>by
  cases v <;> simp only[aminmax,reduceCtorEq] at h
  rename_i k' b
  have hx:=hv 0 _ x rfl rfl
  rw [VL_int] at hx
  subst hx
  obtain ⟨z,hz,hr⟩:=amm_sound (xs:=xs) (by simpa using hl) (fun i v x h1 h2=>hv (i+1) v x (by simpa using h1) (by simpa using h2)) h
  refine ⟨z,hz,fun w=>?_⟩
  have:=hr w
  rw [List.foldlM_cons,Sem.run_bind]
  cases mx
  ·simp only[Bool.false_eq_true,if_false] at this ⊢
   simp only[Builtin.min2,Sem.run_pure,Result.andThen_ok]
   rw [show (if b < a then b else a)=min a b by rw [Int.min_def];split <;> split <;> omega]
   exact this
  ·simp only[if_true] at this ⊢
   simp only[Builtin.max2,Sem.run_pure,Result.andThen_ok]
   rw [show (if b > a then b else a)=max a b by rw [Int.max_def];split <;> split <;> omega]
   exact this
end Go.Av
namespace Go.Av
variable {P:Program}
def aset:List (Int × AV)→Int→AV→List (Int × AV)
 | [],n,v=>[(n,v)]
 | p :: m,n,v=>if p.1=n then (n,v) :: m else p :: aset m n v
def aget:List (Int × AV)→Int→Option AV
 | [],_=>none
 | p :: m,n=>if p.1=n then some p.2 else aget m n
theorem MRel.keys {c:Cx}:∀ {m:List (Int × AV)} {es:List MapEntry},MRel c m es→∀ x ∈ es,MapKept.IsKey (.int .i64) x.key
 | [],es,h,x,hx=>by
  have h':es=[]:=h
  subst h';cases hx
 | p :: m,es,h,x,hx=>by
  obtain ⟨e,es',rfl,h2,h3,h4⟩:=h
  rcases List.mem_cons.1 hx with rfl|hx
  ·rw [h2];rfl
  ·exact MRel.keys h4 x hx
theorem MRel.find {c:Cx} (n:Int):∀ {m:List (Int × AV)} {es:List MapEntry} (i:Nat),MRel c m es →
  (Instr.findNow (.int .i64) (.int .i64 n) es i=some none∧aget m n=none) ∨ ∃ j e v,Instr.findNow (.int .i64) (.int .i64 n) es i=some (some (i+j,e.val))∧es[j]?=some e∧e.key=.int .i64 n∧aget m n=some v∧VR c v e.val
 | [],es,i,h=>by
  have h':es=[]:=h
  subst h'
  exact .inl ⟨rfl,rfl⟩
 | p :: m,es,i,h=>by
  obtain ⟨e,es',rfl,h2,h3,h4⟩:=h
  by_cases e1:p.1=n
  ·refine .inr ⟨0,e,p.2,?_,rfl,by rw [h2,e1],by show (if p.1=n then some p.2 else aget m n)=_;rw [if_pos e1],h3⟩
   unfold Instr.findNow
   rw [h2,e1]
   simp [Instr.sameNow]
  ·have hn:(n == p.1)=false:=by simp;omega
   have hg:aget (p :: m) n=aget m n:=by show (if p.1=n then some p.2 else aget m n)=_;rw [if_neg e1]
   have hf:Instr.findNow (.int .i64) (.int .i64 n) (e :: es') i=Instr.findNow (.int .i64) (.int .i64 n) es' (i+1):=by
    conv=>lhs;unfold Instr.findNow
    rw [h2]
    simp [Instr.sameNow,hn]
   rw [hf,hg]
   rcases MRel.find n (i+1) h4 with ⟨q1,q2⟩|⟨j,e',v,q1,q2,q3,q4,q5⟩
   ·exact .inl ⟨q1,q2⟩
   ·refine .inr ⟨j+1,e',v,?_,by simpa using q2,q3,q4,q5⟩
    rw [q1];congr 3;omega
theorem MRel.push {c:Cx} {n:Int} {v:AV} {x:Value} {k:Nat} (hv:VR c v x):∀ {m:List (Int × AV)} {es:List MapEntry},MRel c m es→aget m n=none→MRel c (aset m n v) (es ++ [{ key:=.int .i64 n,val:=x,born:=k }])
 | [],es,h,_=>by
  have h':es=[]:=h
  subst h'
  exact ⟨_,[],rfl,rfl,hv,rfl⟩
 | p :: m,es,h,hg=>by
  obtain ⟨e,es',rfl,h2,h3,h4⟩:=h
  have hg':(if p.1=n then some p.2 else aget m n)=none:=hg
  by_cases e1:p.1=n
  ·rw [if_pos e1] at hg';cases hg'
  ·rw [if_neg e1] at hg'
   unfold aset
   rw [if_neg e1]
   exact ⟨e,_,rfl,h2,h3,MRel.push hv h4 hg'⟩
theorem MRel.put {c:Cx} {n:Int} {v:AV} {x:Value} (hv:VR c v x):∀ {m:List (Int × AV)} {es:List MapEntry} {j:Nat},MRel c m es→Instr.findNow (.int .i64) (.int .i64 n) es 0=some (some (j,x)) ∨ True→(∃ e,es[j]?=some e∧e.key=.int .i64 n∧∀ i,i < j→∀ e',es[i]?=some e'→e'.key ≠ .int .i64 n) →
  MRel c (aset m n v) (es.modify j fun e=>{ e with key:=.int .i64 n,val:=x })
 | [],es,j,h,_,hj=>by
  have h':es=[]:=h
  subst h'
  obtain ⟨e,h1,_⟩:=hj
  simp at h1
 | p :: m,es,j,h,_,hj=>by
  obtain ⟨e,es',rfl,h2,h3,h4⟩:=h
  obtain ⟨e0,q1,q2,q3⟩:=hj
  cases j with
  | zero =>
   simp at q1
   subst q1
   have e1:p.1=n:=by rw [h2] at q2;injection q2
   unfold aset
   rw [if_pos e1]
   exact ⟨{ e with key:=.int .i64 n,val:=x },es',rfl,rfl,hv,h4⟩
  | succ j =>
   have e1:¬ p.1=n:=fun e1=>q3 0 (Nat.succ_pos _) e rfl (by rw [h2,e1])
   unfold aset
   rw [if_neg e1]
   refine ⟨e,es'.modify j _,rfl,h2,h3,MRel.put hv h4 (.inr trivial) ⟨e0,by simpa using q1,q2,fun i hi e' he=>q3 (i+1) (by omega) e' (by simpa using he)⟩⟩
theorem find_first {n:Int}:∀ {es:List MapEntry} {i j:Nat} {v:Value},Instr.findNow (.int .i64) (.int .i64 n) es i=some (some (i+j,v))→∀ a,a < j→∀ e',es[a]?=some e'→e'.key ≠ .int .i64 n
 | [],i,j,v,h,a,ha,e',he=>by simp at he
 | e :: es,i,j,v,h,a,ha,e',he=>by
  intro hk
  cases a with
  | zero =>
   simp at he
   subst he
   unfold Instr.findNow at h
   rw [hk] at h
   simp [Instr.sameNow] at h
   omega
  | succ a =>
   unfold Instr.findNow at h
   cases hs:Instr.sameNow (.int .i64) (.int .i64 n) e.key with
   | none=>rw [hs] at h;simp at h
   | some b =>
    rw [hs] at h
    cases b with
    | true=>simp at h;omega
    | false =>
     have h':Instr.findNow (.int .i64) (.int .i64 n) es (i+1)=some (some (i+j,v)):=h
     have e2:i+j=(i+1)+(j - 1):=by omega
     rw [e2] at h'
     exact find_first h' a (by omega) e' (by simpa using he) hk
theorem run_mapUp {c:Cx} {w:World} {t kt et:TypeId} {l:Nat} {es:Array MapEntry} {clock:Nat} {m:List (Int × AV)} {n:Int} {v:AV} {x:Value} (hu:P.underlying t=some (.map kt et)) (hk:P.underlying kt=some (.int .i64))
  (hw:w.heap[l]?=some (.map es clock)) (hm:MRel c m es.toList) (hv:VR c v x) :
  ∃ es' clock',(Instr.mapUpdate t (.map (some l)) (.int .i64 n) x).run P w=.ok () { w with heap:=w.heap.setIfInBounds l (.map es' clock') }∧MRel c (aset m n v) es'.toList:=by
 have hK:MapKept.IsKey (.int .i64) (.int .i64 n):=rfl
 rcases MRel.find n 0 hm with ⟨h1,h2⟩|⟨j,e,v0,h1,h2,h3,h4,h5⟩
 ·refine ⟨es.push { key:=.int .i64 n,val:=x,born:=clock },clock+1,?_,?_⟩
  ·simp [Instr.mapUpdate,run_underlying hu,MapKept.run_getObj_map hw,MapKept.run_checkKey hk hK,MapKept.run_findKey hk h1,MapKept.run_setObj_map _ hw,Result.andThen]
  ·rw [Array.toList_push];exact MRel.push hv hm h2
 ·rw [Nat.zero_add] at h1
  have hj:es[j]?=some e:=by rw [← Array.getElem?_toList];exact h2
  refine ⟨es.modify j fun e=>{ e with key:=.int .i64 n,val:=x },clock,?_,?_⟩
  ·simp [Instr.mapUpdate,run_underlying hu,MapKept.run_getObj_map hw,MapKept.run_checkKey hk hK,MapKept.run_findKey hk h1,hj,h3,MapKept.run_keyThatStays hK,MapKept.run_setObj_map _ hw,Result.andThen]
  ·have hf:=find_first (i:=0) (j:=j) (by rw [Nat.zero_add];exact h1)
   have:=MRel.put (j:=j) hv hm (.inr trivial) ⟨e,h2,h3,hf⟩
   rw [show (es.modify j fun e=>{ e with key:=.int .i64 n,val:=x }).toList=es.toList.modify j fun e=>{ e with key:=.int .i64 n,val:=x } by simp]
   exact this
theorem run_mapGet {c:Cx} {w:World} {t kt et:TypeId} {l:Nat} {es:Array MapEntry} {clock:Nat} {m:List (Int × AV)} {n:Int} {i:TypeInfo} {z:Value} {ok:Bool} (hu:P.underlying t=some (.map kt et)) (hk:P.underlying kt=some (.int .i64))
  (hw:w.heap[l]?=some (.map es clock)) (hm:MRel c m es.toList) (hi:P.info? et=some i) (hz:i.zero=some z) :
  ∃ x,(Instr.lookup t (.map (some l)) (.int .i64 n) ok).run P w=.ok (if ok then .tuple #[x,.bool (aget m n).isSome] else x) w∧VR c ((aget m n).getD (ofVal z)) x:=by
 have hK:MapKept.IsKey (.int .i64) (.int .i64 n):=rfl
 rcases MRel.find n 0 hm with ⟨h1,h2⟩|⟨j,e,v0,h1,h2,h3,h4,h5⟩
 ·refine ⟨z,?_,by rw [h2];exact ofVal_rel c z⟩
  rw [h2]
  simp [Instr.lookup,run_underlying hu,MapKept.run_getObj_map hw,MapKept.run_checkKey hk hK,MapKept.run_findKey hk h1,run_zeroValue' hi hz,Result.andThen]
 ·refine ⟨e.val,?_,by rw [h4];exact h5⟩
  rw [h4]
  simp [Instr.lookup,run_underlying hu,MapKept.run_getObj_map hw,MapKept.run_checkKey hk hK,MapKept.run_findKey hk h1,Result.andThen]
end Go.Av
namespace Go.Av
variable {P:Program} {tt:Nat→TI}
def ok {α:Type} (r:Option α) (K:α→Prop):Prop:=∃ v,r=some v∧K v
structure FI where
 n:Nat
 loc:List Nat
 imm:List Nat
 rnd:Option Nat:=none
 ord:List (Nat × List Nat × List (Nat × Bool)):=[]
def AYields (P:Program) (l:Nat) (args:List AV) (h:AH) (Q:AV→AH→Prop):Prop :=
 ∀ c xs,HRel c h→VRs c args xs→∃ fn tmps assign body,(Instr.yield l xs.toArray).run P c.w=.ok (.round l fn tmps assign body) c.w∧RoundIn (FW none) 0 P l fn tmps assign body c.w (Ends c h Q)
def AFn (P:Program) (f:AV) (args:List AV) (h:AH) (K:AV→AH→Prop):Prop :=
 match f with
 | .fn (.func g) first cap=>ACalls P g (first ++ args ++ cap) h K
 | .fn (.yield l) [] []=>AYields P l args h K
 | _=>False
def elsize (tt:Nat→TI) (t:Nat):Nat:=match (tt t).k with
 | .slice e=>(tt e).size
 | .array _ e=>(tt e).size
 | _=>0
def awpNew (fi:FI) (id:Bid) (d:Nat) (box:Bool) (s:AS) (r:Nat × List (List AV) × Nat) (K:AS→Prop):Prop :=
 if fi.loc.contains d then K ((s.newLoc id (r.2.1.getD 0 [])).set (some d) (.lptr id 0))
 else if box && fi.imm.contains d then K (s.set (some d) (.iptr (r.2.1.getD 0 []) 0))
 else K ((s.newHeap id r.1 r.2.1).set (some d) (.ptr id 0 0))
def awpCall (P:Program) (tt:Nat→TI) (k0:Nat) (o:Oper) (cl:Call) (s:AS) (K:AS→Prop):Prop :=
 match cl.callee with
 | .builtin b=>match b,cl.args.toList,cl.argTypes.toList with
  | .len,[x],[t]=>ok (alen (tt t) (s.ev x)) fun n=>K (s.set o.dst (.int .i64 n))
  | .max,xs,_=>ok (amm true (xs.map s.ev)) fun v=>K (s.set o.dst v)
  | .min,xs,_=>ok (amm false (xs.map s.ev)) fun v=>K (s.set o.dst v)
  | .append,[x,y],[t,t']=>match o.dst with
   | some d=>if t=t' then (ok (aapp tt s.h t (k0,d) (s.ev x) (s.ev y)) fun r=>K (AS.set { s with h:=r.2 } (some d) r.1)) ∨ aappN tt s.h t (k0,d) (s.ev x) (s.ev y) fun v h'=>K (AS.set { s with h:=h' } (some d) v) else False
   | none=>False
  | .copy,[x,y],[t,_]=>ok (acopy tt s.h t (s.ev x) (s.ev y)) fun r=>K (AS.set { s with h:=r.2 } o.dst (.int .i64 r.1))
  | _,_,_=>False
 | .value f=>(cl.args.toList.map s.ev).all noL=true∧AFn P (s.ev f) (cl.args.toList.map s.ev) s.h fun v h'=>K (AS.set { s with h:=h' } o.dst v)
 | _=>False
def nilv:AV→Option AV
 | .ptr b i j=>some (.ptr b i j)
 | .lptr t j=>some (.lptr t j)
 | .iptr cs j=>some (.iptr cs j)
 | .gptr g j=>some (.gptr g j)
 | .fn (.func g) first cap=>some (.fn (.func g) first cap)
 | _=>none
def mrec (m:List (Int × AV)):LRec:=⟨{ state:=.ready,pending:=none,fn:=0,tmps:=#[],params:=#[],assign:=.skip,body:=.skip,defers:=0 },fun _=>.undef,some (.m m)⟩
def mupd (P:Program) (t:TypeId) (s:AS) (m k v:AV) (K:AH→Prop):Prop:=∃ kt et l n R L,P.underlying t=some (.map kt et)∧P.underlying kt=some (.int .i64)∧m=.mp l∧k=.int .i64 n∧noL v=true∧s.h.lp l=some R∧R.mp=some (.m L)∧K (s.h.lpSet l (some (mrec (aset L n v))))
def mget (P:Program) (t:TypeId) (s:AS) (m k:AV) (K:AV→Bool→Prop):Prop:=∃ kt et l n R L i z,P.underlying t=some (.map kt et)∧P.underlying kt=some (.int .i64)∧P.info? et=some i∧i.zero=some z∧m=.mp l∧k=.int .i64 n∧s.h.lp l=some R∧R.mp=some (.m L)∧K ((aget L n).getD (ofVal z)) (aget L n).isSome
def awp1 (P:Program) (tt:Nat→TI) (fi:FI) (k0:Nat) (o:Oper) (s:AS) (K:AS→Prop):Prop :=
 match o.op with
 | .load t p=>ok (aload (tt t) s (s.ev p)) fun v=>K (s.set o.dst v)
 | .store t p v=>ok (aput (tt t) s (s.ev p) (s.ev v)) fun s'=>K (s'.set o.dst (.tup []))
 | .alloc t=>match o.dst with
  | some d=>ok (arows tt s.ev (.alloc t)) fun r=>awpNew fi (k0,d) d false s r K
  | none=>False
 | .box t x=>match o.dst with
  | some d=>ok (arows tt s.ev (.box t x)) fun r=>awpNew fi (k0,d) d true s r K
  | none=>False
 | .buildSlice t n ps=>match o.dst with
  | some d=>ok (absl tt s.ev t n ps.toList) fun r=>if fi.imm.contains d then K (s.set (some d) (if fi.loc.contains d then .lstx r.1 r.2 else .lst r.1 r.2)) else K ((s.newHeap (k0,d) r.1 r.2).set (some d) (.slc (k0,d) r.1 0 n))
  | none=>False
 | .makeSlice t l c=>match o.dst with
  | some d=>ok (amake tt t (s.ev l) (s.ev c)) fun r=>K ((s.newHeap (k0,d) r.1 r.2.1).set (some d) (.slc (k0,d) r.1 0 r.2.2))
  | none=>False
 | .slice t x lo hi none=>ok (asl (tt t) (elsize tt t) (lo.map s.ev) (hi.map s.ev) (s.ev x)) fun v=>K (s.set o.dst v)
 | .nilCheck x=>ok (nilv (s.ev x)) fun v=>K (s.set o.dst v)
 | .call cl=>awpCall P tt k0 o cl s K
 | .makeMap _ none=>match o.dst with
  | some d=>∀ l,s.h.lp l=none→K (AS.set { s with h:=s.h.lpSet l (some (mrec [])) } (some d) (.mp l))
  | none=>False
 | .mapUpdate t m k x=>mupd P t s (s.ev m) (s.ev k) (s.ev x) fun h'=>K (AS.set { s with h:=h' } o.dst (.tup []))
 | .insert t m k x=>mupd P t s (s.ev m) (s.ev k) (s.ev x) fun h'=>K (AS.set { s with h:=h' } o.dst (.tup []))
 | .lookup t m k okc=>mget P t s (s.ev m) (s.ev k) fun v b=>K (s.set o.dst (if okc then .tup [v,.bool b] else v))
 | _=>ok (pval tt s.ev o.op) fun v=>K (s.set o.dst v)
def Fresh (k0:Nat) (c:Cx) (lb:Bid→Option Nat) (D:List Nat):Prop:=∀ d,d ∉ D→¬ c.dom (k0,d)∧lb (k0,d)=none
section
variable {r:Option Nat} {o:Oper} {a:Act} {w w':World} {next:Act→World→Prop} {Q:Exit→Act→World→Prop}
theorem wpIn_of_run (ho:∀ c,o.op ≠ .defer c) (h:o.uponIn (FW r) 0 P a next Q ((execOp a.eval o).run P w)):o.wpIn (FW r) 0 P a w next Q :=
 ⟨fun _ _=>trivial,by rw [Oper.semAt_eq _ _ _ ho];exact h⟩
theorem wpIn_value {x:Value} (ho:∀ c,o.op ≠ .defer c) (hr:(execOp a.eval o).run P w=.ok (.value x) w') (hn:next (a.put o.dst x) w'):o.wpIn (FW r) 0 P a w next Q :=
 wpIn_of_run ho (by rw [hr];exact hn)
end
theorem SR.newIm {c0:Cx} {h0:AH} {c:Cx} {lb:Bid→Option Nat} {s:AS} {n:Nat} {a:Act} (S:SR c0 h0 c lb s n a) (ty:TypeId) (xs:List Value) :
  let c':Cx:={ c with w:=c.w.alloc (.cells xs.toArray ty),im:=fun i=>c.im i ∨ i=c.w.heap.size }
  SR c0 h0 c' lb s n a∧c.Le c'∧c'.w.rangeAt c.w.heap.size 0 xs:=by
 intro c'
 have hold:∀ b,b < c.w.heap.size→c'.w.heap[b]?=c.w.heap[b]?:=fun b hb=>heap_alloc_old' c.w _ b hb
 have hnew:c'.w.heap[c.w.heap.size]?=some (.cells xs.toArray ty (0,0)):=heap_alloc_new c.w _
 have hle:c.Le c':=⟨fun _ h=>h,fun _ _=>rfl,fun _ h=>.inl h,fun b hb=>hold b (S.hr.imlt b hb)⟩
 have hrw:∀ b,RW c' s.h b→RW c s.h b:=fun b hb=>hb
 have H:HRel c' s.h:=by
  refine ⟨S.hr.clk,fun b k hb=>(S.hr.blk b k hb).mono hle (hold _ (RW.lt S.hr (.inl ⟨b,k,hb,rfl⟩))),S.hr.inj,?_,?_,fun l rr hr=>(S.hr.lp l rr hr).mono hle (hold l (RW.lt S.hr (.inr ⟨rr,hr⟩))),?_,S.hr.lpat,S.hr.gl.mono hle⟩
  ·rintro b k hb (hi|hi)
   ·exact S.hr.im b k hb hi
   ·have:=RW.lt S.hr (.inl ⟨b,k,hb,rfl⟩)
    rw [show (c.fm b).blk=c.w.heap.size from hi] at this
    exact Nat.lt_irrefl _ this
  ·rintro b (hi|rfl)
   ·exact Nat.lt_of_lt_of_le (S.hr.imlt b hi) (by simp [c'])
   ·simp [c']
  ·rintro l rr hr (hi|rfl)
   ·exact S.hr.lpim l rr hr hi
   ·have:=RW.lt S.hr (.inr ⟨rr,hr⟩)
    exact Nat.lt_irrefl _ this
 have E:Evo c s.h c' s.h:=⟨hle,Nat.le_refl _,by simp [c'],fun b hb _=>hold b hb,fun b hb=>hb.imp id (fun e=>.inl (Nat.le_of_eq e.symm)),fun _ h=>.inr h,fun _ k h _=>⟨k,h⟩,rfl,rfl,rfl,rfl⟩
 exact ⟨S.go H E (fun _ h=>.inl h),hle,rangeAt_cells hnew⟩
end Go.Av
namespace Go.Av
variable {P:Program} {tt:Nat→TI}
theorem Fresh.mono {k0:Nat} {c:Cx} {lb:Bid→Option Nat} {D D':List Nat} (F:Fresh k0 c lb D) (h:∀ d,d ∈ D→d ∈ D'):Fresh k0 c lb D':=fun d hd=>F d (fun x=>hd (h d x))
theorem AYields.run {P:Program} {r:Option Nat} {n:Nat} {l:Nat} {f:FuncId} {tmps:Array Value} {assign body:Code} {w:World} {R:Ending→World→Prop} (h:RoundIn (FW none) n P l f tmps assign body w R):RoundIn (FW r) n P l f tmps assign body w R:=h
set_option maxHeartbeats 1000000 in
theorem SR.appendI (T:Tab P tt) {c0:Cx} {h0:AH} {c:Cx} {lb:Bid→Option Nat} {s:AS} {n:Nat} {a:Act} (S:SR c0 h0 c lb s n a) {t:Nat}
  {el:Nat} {es rows:List (List AV)} {y:AV} {X Y:Value} (hx:VL c lb (.lstx (tt el).size es) X) (hy:VL c lb y Y) (hk:(tt t).k=.slice el) (hsrc:asrc s.h (tt el).size y=some rows)
  (hbig:(es.length+rows.length) * (tt el).bytes≤big∧es.length+rows.length≤big) (ty:TypeId) :
  ∃ c' z,(Builtin.append_ #[t,t] ty #[X,Y]).run P c.w=.ok z c'.w∧VR c' (.lst (tt el).size (es ++ rows)) z∧SR c0 h0 c' lb s n a∧c'.dom=c.dom:=by
 obtain ⟨hu,_⟩:=slice_elem T hk
 have hkel:=T.elem t el (by rw [hk];rfl)
 obtain ⟨i,z,hi,hsz,hby,hz,hzr,hzl,hzc⟩:=(T.all el hkel).info
 have hyn:VR c y Y:=by
  cases y <;> first|exact hy|(simp [asrc] at hsrc)
 obtain ⟨a2,cap2,vs,rfl,hrows,hvs,hnil,hcells⟩:=asrc_sound S.hr hyn hsrc
 obtain ⟨hvl,hone⟩:=hvs.rows hrows
 have hfl:vs.flatten.length=rows.length * i.size:=by rw [flat_length hvl,hvs.length,hsz]
 have hx':VR c (.lstx (tt el).size es) X:=hx
 simp only[VR] at hx'
 obtain ⟨a1,vo,rfl,hno,hro,hat,hvo⟩:=hx'
 have hvol:=(hvo.rows hro).1
 have hvn:vo.length=es.length:=hvo.length
 have hall:=hvo.append hvs
 have hrall:=rowsOk_app hro hrows
 have hallr:=(hall.rows hrall).1
 have hlen:(es ++ rows).length=es.length+rows.length:=List.length_append
 by_cases hm0:rows.length=0
 ·have hr0:rows=[]:=List.eq_nil_of_length_eq_zero hm0
  subst hr0
  have hrun:=run_append_zero (P:=P) (w:=c.w) t ty el i hu hi a1 a2 es.length es.length cap2 (Nat.le_refl _)
  refine ⟨c,_,hrun,?_,S,rfl⟩
  simp only[VR,List.append_nil]
  exact ⟨a1,es.length,vo,rfl,Nat.le_refl _,hno,hro,hat,hvo⟩
 obtain ⟨a2',rfl⟩:∃ a',a2=some a':=by
  cases a2 with
  | none=>exact absurd (by rw [hnil rfl];rfl) hm0
  | some a'=>exact ⟨a',rfl⟩
 unfold big at hbig
 have key:∀ (cap0:Nat) (W:Array Value),(∀ (i':Nat) row,(vo ++ vs)[i']?=some row→∀ (j:Nat) u,row[j]?=some u→W[i' * (tt el).size+j]?=some u)→es.length+rows.length≤cap0 →
   (Builtin.append_ #[t,t] ty #[.slice a1 es.length es.length,.slice (some a2') rows.length cap2]).run P c.w=.ok (.slice (some ⟨c.w.drew.heap.size,0,none⟩) (es.length+rows.length) cap0) (c.w.drew.alloc (.cells W el)) →
   ∃ c' z,(Builtin.append_ #[t,t] ty #[.slice a1 es.length es.length,.slice (some a2') rows.length cap2]).run P c.w=.ok z c'.w∧VR c' (.lst (tt el).size (es ++ rows)) z∧SR c0 h0 c' lb s n a∧c'.dom=c.dom:=by
  intro cap0 W hput hcap hrun
  have S1:=S.drew
  obtain ⟨S2,hle,hat2⟩:=S1.newIm el W.toList
  refine ⟨{ c with w:=c.w.drew.alloc (.cells W el),im:=fun i=>c.im i ∨ i=c.w.drew.heap.size },_,hrun,?_,by simpa using S2,rfl⟩
  simp only[VR]
  refine ⟨_,cap0,vo ++ vs,by rw [hlen],by rw [hlen];exact hcap,by simp,hrall,.inr ⟨c.w.drew.heap.size,0,rfl,.inr rfl,fun i' row hrow j u hu'=>?_⟩,?_⟩
  ·have:=hat2 (i' * (tt el).size+j) u (by simpa using hput i' row hrow j u hu')
   rw [show 0+i' * (tt el).size+j=0+(i' * (tt el).size+j) from by omega]
   simpa using this
  ·exact VRss.mono (by simpa using hle) _ _ (VRss.mono (c:=c) (c':={ c with w:=c.w.drew }) ⟨fun _ h=>h,fun _ _=>rfl,fun _ h=>h,fun _ _=>rfl⟩ _ _ hall)
 have hput:∀ (tl:Array Value) (i':Nat) row,(vo ++ vs)[i']?=some row→∀ (j:Nat) u,row[j]?=some u→(vo.flatten.toArray ++ vs.flatten.toArray ++ tl)[i' * (tt el).size+j]?=some u:=by
  intro tl i' row hrow j u hu'
  have:=flat_put hallr hrow hu'
  rw [List.flatten_append] at this
  have hlt':=(List.getElem?_eq_some_iff.1 this).1
  simp only[List.append_toArray,Array.getElem?_append,List.size_toArray,hlt',if_true]
  simpa using this
 cases a1 with
 | none =>
  have he0:=hno rfl
  subst he0
  have hv0:vo=[]:=List.eq_nil_of_length_eq_zero (by simpa using hvn)
  subst hv0
  simp only[List.length_nil,Nat.zero_add] at hbig
  have hrun:=run_append_nil (P:=P) (w:=c.w) t ty el i z hu hi hz a2' rows.length cap2 vs.flatten hfl (hcells a2' rfl) (by omega) (by omega) (by rw [hby];omega)
  have hge':=grownCap_ge c.w rows.length 0 el
  refine key _ _ (fun i' row hrow j u hu'=>?_) (by simpa using hge') (by simpa using hrun)
  have:=hput (Builtin.zeroCells z.cells (grownCap c.w rows.length 0 el - rows.length)) i' row hrow j u hu'
  simpa using this
 | some a1 =>
  have hnc:=nextcap_le (n:=es.length+rows.length) (m:=es.length) (by omega)
  have hncb:Builtin.nextslicecap (es.length+rows.length) es.length * i.bytes≤281474976710656:=by
   rw [hby]
   refine Nat.le_trans (Nat.mul_le_mul_right _ hnc) ?_
   rw [Nat.mul_assoc];omega
  have holds:∀ j u,vo.flatten[j]?=some u→c.w.cell? (a1.add j)=some u:=by
   intro j u hu'
   obtain ⟨i',m,row,q1,q2,q3⟩:=flat_get hvol hu'
   rcases hat with rfl|⟨bb,oo,hbb,_,hr⟩
   ·simp at hu'
   ·cases hbb
    rw [addr_add,q3,← Nat.add_assoc]
    exact hr i' row q1 m u q2
  have hrun:=run_append_grow (P:=P) (w:=c.w) t ty el i z hu hi hz a1 es.length es.length vo.flatten (by rw [flat_length hvol,hvn,hsz]) holds a2' rows.length cap2 vs.flatten hfl (hcells a2' rfl) (by omega) (by omega) hncb
  exact key _ _ (hput _) (grownCap_ge c.w (es.length+rows.length) es.length el) hrun
set_option maxHeartbeats 1000000 in
theorem op1_sound (T:Tab P tt) {fi:FI} {k0:Nat} {r:Option Nat} {c0:Cx} {h0:AH} {c:Cx} {lb:Bid→Option Nat} {s:AS} {a:Act} {D:List Nat} {o:Oper} {K:AS→Prop}
  (S:SR c0 h0 c lb s fi.n a) (hF:Fresh k0 c lb D) (hk:k0 < s.h.clk) (hk0:h0.clk≤k0) (hd:∀ d,o.dst=some d→d < fi.n∧d ∉ D) (hK:awp1 P tt fi k0 o s K)
  {next:Act→World→Prop} {Q:Exit→Act→World→Prop}
  (hn:∀ c' lb' s' a',SR c0 h0 c' lb' s' fi.n a'→Fresh k0 c' lb' (o.dst.toList ++ D)→k0 < s'.h.clk→K s'→next a' c'.w):o.wpIn (FW r) 0 P a c.w next Q:=by
 have hE:=S.fr.ev
 have hd':∀ d,o.dst=some d→d < fi.n:=fun d h=>(hd d h).1
 have hFm:Fresh k0 c lb (o.dst.toList ++ D):=hF.mono (fun d h=>List.mem_append.2 (.inr h))
 -- an operation that gives a value and leaves all as it was
 have pure_:(∀ cl,o.op ≠ .defer cl)→∀ (res:Option AV),(∀ v,res=some v→∃ x,VL c lb v x∧(execOp a.eval o).run P c.w=.ok (.value x) c.w)→ok res (fun v=>K (s.set o.dst v))→o.wpIn (FW r) 0 P a c.w next Q:=by
  rintro ho res hres ⟨v,hv,hKv⟩
  obtain ⟨x,hx,hr⟩:=hres v hv
  refine wpIn_value ho hr (hn c lb _ _ (S.put hx hd') hFm (by rw [AS.set_h];exact hk) hKv)
 have pv:(∀ cl,o.op ≠ .defer cl)→ok (pval tt s.ev o.op) (fun v=>K (s.set o.dst v))→o.wpIn (FW r) 0 P a c.w next Q:=fun ho h =>
  pure_ ho _ (fun v hv=>let ⟨x,hx,hr⟩:=pval_sound T hE hv;⟨x,hx,hr⟩) h
 -- a new block of the abstract heap
 have newH:∀ {d:Nat},o.dst=some d→(∀ cl,o.op ≠ .defer cl)→∀ {cur:Array Value} {ty:TypeId} {e:Nat} {es:List (List AV)} {vs:List (List Value)} {v:AV} {x:Value},rowsOk e es→VRss c es vs→es.length * e≤cur.size →
   (∀ (i:Nat) row,vs[i]?=some row→∀ (j:Nat) v,row[j]?=some v→cur[i * e+j]?=some v)→VR (c.alloc (k0,d) cur ty e) v x→(execOp a.eval o).run P c.w=.ok (.value x) (c.w.alloc (.cells cur ty)) →
   K ((s.newHeap (k0,d) e es).set (some d) v)→o.wpIn (FW r) 0 P a c.w next Q:=by
  intro d hdst ho cur ty e es vs v x hrows hvs hle hc hx hr hKv
  obtain ⟨hf1,hf2⟩:=hF d (hd d hdst).2
  have S1:=S.newHeap (id:=(k0,d)) hf1 hk hk0 cur ty hrows hvs hle hc
  refine wpIn_value ho hr (hn (c.alloc (k0,d) cur ty e) lb ((s.newHeap (k0,d) e es).set o.dst v) _ (S1.put (hx.vl lb) hd') ?_ (by rw [AS.set_h];exact hk) (by rw [hdst];exact hKv))
  intro d' hd''
  rw [hdst] at hd''
  simp only[Option.toList_some,List.singleton_append,List.mem_cons,not_or] at hd''
  obtain ⟨g1,g2⟩:=hF d' hd''.2
  refine ⟨?_,g2⟩
  rintro (e'|e')
  ·simp only[Prod.mk.injEq] at e';exact hd''.1 e'.2
  ·exact g1 e'
 -- alloc and box
 have new1:∀ {d:Nat} {box:Bool} {rr:Nat × List (List AV) × Nat},o.dst=some d→(∀ cl,o.op ≠ .defer cl)→arows tt s.ev o.op=some rr→awpNew fi (k0,d) d box s rr K→o.wpIn (FW r) 0 P a c.w next Q:=by
  rintro d box ⟨e,es,ty⟩ hdst ho hres hK'
  obtain ⟨row,xs,rfl,hl,hc,hv,hrun⟩:=arows_sound T hE hres
  obtain ⟨hf1,hf2⟩:=hF d (hd d hdst).2
  unfold awpNew at hK'
  simp only[List.getD_cons_zero] at hK'
  split at hK'
  ·-- the frame's own
   have S1:=S.newLoc (id:=(k0,d)) hf2 hk ty hc hv
   have hval:VL ({ c with w:=c.w.alloc (.cells xs.toArray ty) }:Cx) (upd lb (k0,d) (some c.w.heap.size)) (.lptr (k0,d) 0) (.pointer (some ⟨c.w.heap.size,0,none⟩)):=⟨c.w.heap.size,by simp,rfl⟩
   refine wpIn_value ho (hrun c.w) (hn { c with w:=c.w.alloc (.cells xs.toArray ty) } _ ((s.newLoc (k0,d) row).set o.dst (.lptr (k0,d) 0)) _ (S1.put hval hd') ?_ (by rw [AS.set_h];exact hk) (by rw [hdst];exact hK'))
   intro d' hd''
   rw [hdst] at hd''
   simp only[Option.toList_some,List.singleton_append,List.mem_cons,not_or] at hd''
   obtain ⟨g1,g2⟩:=hF d' hd''.2
   exact ⟨g1,by rw [upd_ne _ _ (by simp only[ne_eq,Prod.mk.injEq,not_and];exact fun _=>hd''.1)];exact g2⟩
  ·split at hK'
   ·-- nobody writes
    obtain ⟨S1,hle,hat⟩:=S.newIm ty xs
    have hval:VR ({ c with w:=c.w.alloc (.cells xs.toArray ty),im:=fun i=>c.im i ∨ i=c.w.heap.size }:Cx) (.iptr row 0) (.pointer (some ⟨c.w.heap.size,0,none⟩)):=by
     simp only[VR]
     exact ⟨c.w.heap.size,0,xs,rfl,.inr rfl,hat,hc,VRs.mono hle _ _ hv⟩
    refine wpIn_value ho (hrun c.w) (hn _ _ (s.set o.dst (.iptr row 0)) _ (S1.put (hval.vl lb) hd') ?_ (by rw [AS.set_h];exact hk) (by rw [hdst];exact hK'))
    exact hFm
   ·-- the heap's
    refine newH hdst ho (cur:=xs.toArray) (ty:=ty) (e:=e) (es:=[row]) (vs:=[xs]) (v:=.ptr (k0,d) 0 0) (fun q hq=>by simp at hq;subst hq;exact ⟨hl,hc⟩) (by simp only[VRss];exact ⟨xs,[],rfl,hv,rfl⟩) (by simp [hv.length,hl]) ?_ ?_ (hrun c.w) hK'
    ·intro i q hq j v hv'
     cases i with
     | zero=>simp at hq;subst hq;simpa using hv'
     | succ i=>simp at hq
    ·simp only[VR]
     exact ⟨.inl rfl,by rw [alloc_blk];simp⟩
 unfold awp1 at hK
 split at hK
 ·-- load
  rename_i t p ho
  refine pure_ (by rw [ho];simp) _ (fun v hv=>?_) hK
  obtain ⟨x,hx,hr⟩:=load_sound T S.hr S.fr (hE p) hv
  exact ⟨x,hx.vl lb,by unfold execOp;simp only[ho,Sem.run_bind,hr,Result.andThen_ok];rfl⟩
 ·-- store
  rename_i t p v ho
  obtain ⟨s',hs',hK'⟩:=hK
  obtain ⟨c',hr,S',hdom,hclk⟩:=S.store T (hE p) (hE v) hs'
  have hrun:(execOp a.eval o).run P c.w=.ok .skip c'.w:=by unfold execOp;simp only[ho,Sem.run_bind,hr,Result.andThen_ok];rfl
  refine wpIn_of_run (by rw [ho];simp) ?_
  rw [hrun]
  refine hn c' lb (s'.set o.dst (.tup [])) _ (S'.put (v:=.tup []) (x:=undef) (by simp only[VL,VR];exact ⟨[],rfl,VRs.nil⟩) hd') (fun d h=>?_) (by rw [AS.set_h,hclk];exact hk) hK'
  rw [hdom]
  exact hFm d h
 ·-- alloc
  rename_i t ho
  split at hK
  ·rename_i d hdst
   obtain ⟨rr,hres,hK'⟩:=hK
   exact new1 hdst (by rw [ho];simp) (by rw [ho];exact hres) hK'
  ·exact hK.elim
 ·-- box
  rename_i t x ho
  split at hK
  ·rename_i d hdst
   obtain ⟨rr,hres,hK'⟩:=hK
   exact new1 hdst (by rw [ho];simp) (by rw [ho];exact hres) hK'
  ·exact hK.elim
 ·-- a literal of a slice
  rename_i t n ps ho
  split at hK
  ·rename_i d hdst
   obtain ⟨⟨e,es⟩,hres,hK'⟩:=hK
   obtain ⟨vs,el,hl,hrows,hvs,hrun,hmax⟩:=absl_sound T hE hres
   have hvr:=hvs.rows hrows
   have hfl:=flat_length hvr.1
   rw [hvs.length] at hfl
   have hrun':(execOp a.eval o).run P c.w=.ok (.value (.slice (some ⟨c.w.heap.size,0,none⟩) n n)) (c.w.alloc (.cells vs.flatten.toArray el)):=by
    unfold execOp;simp only[ho,Sem.run_bind,hrun c.w,Result.andThen_ok];rfl
   simp only at hK'
   split at hK'
   ·obtain ⟨S1,hle,hat⟩:=S.newIm el vs.flatten
    have hl0:lstAt ({ c with w:=c.w.alloc (.cells vs.flatten.toArray el),im:=fun i=>c.im i ∨ i=c.w.heap.size }:Cx) e (some ⟨c.w.heap.size,0,none⟩) vs:=.inr ⟨c.w.heap.size,0,rfl,.inr rfl,fun i row hrow j v hv=>by
     have:=hat (i * e+j) v (flat_put hvr.1 hrow hv)
     rw [show 0+i * e+j=0+(i * e+j) from by omega]
     exact this⟩
    have hval:VR ({ c with w:=c.w.alloc (.cells vs.flatten.toArray el),im:=fun i=>c.im i ∨ i=c.w.heap.size }:Cx) (if fi.loc.contains d then .lstx e es else .lst e es) (.slice (some ⟨c.w.heap.size,0,none⟩) n n):=by
     split
     ·simp only[VR]
      exact ⟨_,vs,by rw [hl],by simp,hrows,hl0,VRss.mono hle _ _ hvs⟩
     ·simp only[VR]
      exact ⟨_,n,vs,by rw [hl],by rw [hl];exact Nat.le_refl _,by simp,hrows,hl0,VRss.mono hle _ _ hvs⟩
    refine wpIn_value (by rw [ho];simp) hrun' (hn _ _ (s.set o.dst (if fi.loc.contains d then .lstx e es else .lst e es)) _ (S1.put (hval.vl lb) hd') hFm (by rw [AS.set_h];exact hk) (by rw [hdst];exact hK'))
   refine newH hdst (by rw [ho];simp) (cur:=vs.flatten.toArray) (ty:=el) hrows hvs (by simp only[List.size_toArray,hfl];exact Nat.le_refl _) (fun i row hrow j v hv=>by simpa using flat_put hvr.1 hrow hv) (v:=.slc (k0,d) e 0 n) (x:=.slice (some ⟨c.w.heap.size,0,none⟩) n n) ?_ ?_ hK'
   ·simp only[VR]
    refine ⟨.inl rfl,by rw [alloc_blk],_,n,Nat.le_refl _,hmax,?_,rfl,fun _=>by rw [alloc_blk];simp⟩
    rw [alloc_blk]
    simp only[List.size_toArray,hfl,hl,Nat.zero_add];exact Nat.le_refl _
   ·exact hrun'
  ·exact hK.elim
 ·-- make
  rename_i t l cc ho
  split at hK
  ·rename_i d hdst
   obtain ⟨⟨e,es,n⟩,hres,hK'⟩:=hK
   obtain ⟨cur,vs,el,cap,hl,hnc,hcm,hce,hrows,hvs,hcells,hrun⟩:=amake_sound T (hE l) (hE cc) hres
   refine newH hdst (by rw [ho];simp) (cur:=cur) (ty:=el) hrows hvs (by rw [hl];exact Nat.le_trans (Nat.mul_le_mul_right _ hnc) hce) hcells (v:=.slc (k0,d) e 0 n) (x:=.slice (some ⟨c.w.heap.size,0,none⟩) n cap) ?_ ?_ hK'
   ·simp only[VR]
    refine ⟨.inl rfl,by rw [alloc_blk],_,cap,hnc,hcm,?_,rfl,fun _=>by rw [alloc_blk];simp⟩
    rw [alloc_blk,Nat.zero_add];exact hce
   ·unfold execOp;simp only[ho,Sem.run_bind,hrun c.w,Result.andThen_ok];rfl
  ·exact hK.elim
 ·-- a part of a slice
  rename_i t x lo hi ho
  refine pure_ (by rw [ho];simp) _ (fun v hv=>?_) hK
  obtain ⟨z,hz,hr⟩:=asl_sound T hE (t:=t) (x:=x) (lo:=lo) (hi:=hi) (e:=elsize tt t) (fun e' he'=>by simp [elsize,he']) (fun n e' he'=>by simp [elsize,he']) hv
  exact ⟨z,hz,by unfold execOp;simp only[ho,Option.map_none,Sem.run_bind,hr c.w,Result.andThen_ok];rfl⟩
 ·-- is it nil?
  rename_i x ho
  have hx:=hE x
  refine pure_ (by rw [ho];simp) _ (fun v hv=>?_) hK
  cases he:s.ev x <;> rw [he] at hx hv <;> simp only[nilv,reduceCtorEq] at hv
  case ptr b i j =>
   cases hv
   have hx':VR c (.ptr b i j) (a.eval x):=hx
   simp only[VR] at hx'
   exact ⟨a.eval x,hx,by unfold execOp;simp only[ho];rw [hx'.2];rfl⟩
  case lptr t j =>
   cases hv
   obtain ⟨b,hb,hx'⟩:=hx
   exact ⟨a.eval x,⟨b,hb,hx'⟩,by unfold execOp;simp only[ho];rw [hx'];rfl⟩
  case iptr cs j =>
   cases hv
   have hx':VR c (.iptr cs j) (a.eval x):=hx
   simp only[VR] at hx'
   obtain ⟨b,o',xs,hx',_⟩:=hx'
   exact ⟨a.eval x,hx,by unfold execOp;simp only[ho];rw [hx'];rfl⟩
  case gptr g j =>
   cases hv
   have hx':VR c (.gptr g j) (a.eval x):=hx
   simp only[VR] at hx'
   exact ⟨a.eval x,hx,by unfold execOp;simp only[ho];rw [hx'];rfl⟩
  case fn f first cap =>
   cases f <;> simp only[reduceCtorEq] at hv
   rename_i g
   cases hv
   have hx':VR c (.fn (.func g) first cap) (a.eval x):=hx
   simp only[VR] at hx'
   obtain ⟨xs,ys,hx',_⟩:=hx'
   exact ⟨a.eval x,hx,by unfold execOp;simp only[ho];rw [hx'];rfl⟩
 ·-- a call
  rename_i cl ho
  have hnd:∀ c',o.op ≠ .defer c':=by rw [ho];simp
  unfold awpCall at hK
  split at hK
  ·-- built in
   rename_i b hcal
   have hres:∀ w,(resolve a.eval cl o.type).run P w=.ok { target:=.builtin b cl.argTypes o.type (cl.args.map fun|.const _=>true|_=>false),args:=cl.args.map a.eval } w:=fun w=>by
    unfold resolve;rw [hcal];rfl
   have hex:∀ w,(execOp a.eval o).run P w=(builtin b cl.argTypes o.type (cl.args.map fun|.const _=>true|_=>false) (cl.args.map a.eval)).run P w:=fun w=>by
    unfold execOp;simp only[ho,Sem.run_bind,hres,Result.andThen_ok];rfl
   split at hK
   ·-- len
    rename_i x t hargs hat
    obtain ⟨m,hm,hK'⟩:=hK
    refine pure_ hnd (some (.int .i64 m)) (fun v hv=>?_) ⟨_,rfl,hK'⟩
    cases hv
    refine ⟨.int .i64 m,VL_int.2 rfl,?_⟩
    rw [hex]
    have ha:cl.args.map a.eval=#[a.eval x]:=by rw [← Array.toArray_toList (xs:=cl.args),hargs];simp
    rw [ha]
    have:=alen_sound T (hE x) hm cl.argTypes (by rw [← Array.getElem?_toList,hat];rfl) o.type c.w
    simp only[builtin,Sem.run_bind,this,Result.andThen_ok]
    rfl
   ·-- max
    rename_i xs ts hargs _
    refine pure_ hnd _ (fun v hv=>?_) hK
    cases hxs:cl.args.toList with
    | nil=>rw [hxs] at hv;simp [amm] at hv
    | cons x l =>
     rw [hxs] at hv
     simp only[List.map_cons] at hv
     have hx:=hE x
     cases he:s.ev x <;> rw [he] at hv hx <;> simp only[amm,reduceCtorEq] at hv
     rename_i k m
     rw [VL_int] at hx
     obtain ⟨z,hz,hr⟩:=amm_sound (c:=c) (lb:=lb) (mx:=true) (vs:=l.map s.ev) (xs:=l.map a.eval) (k:=k) (a:=m) (by simp) (fun i v x' hv hx=>by
      rw [List.getElem?_map] at hv hx
      cases hi:l[i]? with
      | none=>simp [hi] at hv
      | some y=>simp only[hi,Option.map_some,Option.some.injEq] at hv hx;subst hv hx;exact hE y) hv
     refine ⟨z,hz,?_⟩
     rw [hex]
     have ha:(cl.args.map a.eval).toList=.int k m :: l.map a.eval:=by rw [Array.toList_map,hxs,List.map_cons,hx]
     have hr':(List.foldlM Builtin.max2 (Value.int k m) (l.map a.eval)).run P c.w=.ok z c.w:=hr c.w
     simp only[builtin,Builtin.max_,ha,Sem.run_bind,hr',Result.andThen_ok]
     rfl
   ·-- min
    rename_i xs ts hargs _
    refine pure_ hnd _ (fun v hv=>?_) hK
    cases hxs:cl.args.toList with
    | nil=>rw [hxs] at hv;simp [amm] at hv
    | cons x l =>
     rw [hxs] at hv
     simp only[List.map_cons] at hv
     have hx:=hE x
     cases he:s.ev x <;> rw [he] at hv hx <;> simp only[amm,reduceCtorEq] at hv
     rename_i k m
     rw [VL_int] at hx
     obtain ⟨z,hz,hr⟩:=amm_sound (c:=c) (lb:=lb) (mx:=false) (vs:=l.map s.ev) (xs:=l.map a.eval) (k:=k) (a:=m) (by simp) (fun i v x' hv hx=>by
      rw [List.getElem?_map] at hv hx
      cases hi:l[i]? with
      | none=>simp [hi] at hv
      | some y=>simp only[hi,Option.map_some,Option.some.injEq] at hv hx;subst hv hx;exact hE y) hv
     refine ⟨z,hz,?_⟩
     rw [hex]
     have ha:(cl.args.map a.eval).toList=.int k m :: l.map a.eval:=by rw [Array.toList_map,hxs,List.map_cons,hx]
     have hr':(List.foldlM Builtin.min2 (Value.int k m) (l.map a.eval)).run P c.w=.ok z c.w:=hr c.w
     simp only[builtin,Builtin.min_,ha,Sem.run_bind,hr',Result.andThen_ok]
     rfl
   ·-- append
    rename_i x y t t' hargs hat
    split at hK
    ·rename_i d hdst
     split at hK
     ·rename_i htt
      subst htt
      obtain ⟨hf1,hf2⟩:=hF d (hd d hdst).2
      rcases hK with hK|hK
      case inr =>
       rcases hK with ⟨b,off,n',k,el,rows,e1,e2,e3,e4,e5,e6,e7,hK1,hK2⟩|⟨el,es,rows,e1,e2,e3,e4,hK1⟩
       case inr =>
        have hxx:=hE x
        rw [e1] at hxx
        obtain ⟨c',z,hr,hz,S',hdom⟩:=S.appendI T hxx (hE y) e2 e3 e4 o.type
        have ha:cl.args.map a.eval=#[a.eval x,a.eval y]:=by rw [← Array.toArray_toList (xs:=cl.args),hargs];simp
        have hat':cl.argTypes=#[t,t]:=by rw [← Array.toArray_toList (xs:=cl.argTypes),hat]
        have hrun:(execOp a.eval o).run P c.w=.ok (.value z) c'.w:=by
         rw [hex,ha,hat']
         simp only[builtin,Sem.run_bind,hr,Result.andThen_ok]
         rfl
        exact wpIn_value hnd (x:=z) (w':=c'.w) hrun (hn c' lb (AS.set s o.dst _) _ (S'.put (hz.vl lb) hd') (fun d' hd''=>by rw [hdom];exact hFm d' hd'') (by rw [AS.set_h];exact hk) (by rw [hdst];exact hK1))
       have hxx:=hE x
       rw [e1] at hxx
       obtain ⟨c',z,hr,hdom,hout⟩:=S.appendN T (id:=(k0,d)) hf1 hk hk0 hxx (hE y) e2 e3 e4 e5 e6 e7 o.type
       have ha:cl.args.map a.eval=#[a.eval x,a.eval y]:=by rw [← Array.toArray_toList (xs:=cl.args),hargs];simp
       have hat':cl.argTypes=#[t,t]:=by rw [← Array.toArray_toList (xs:=cl.argTypes),hat]
       have hfr:Fresh k0 c' lb (o.dst.toList ++ D):=by
        intro d' hd''
        rw [hdst] at hd''
        simp only[Option.toList_some,List.singleton_append,List.mem_cons,not_or] at hd''
        obtain ⟨g1,g2⟩:=hF d' hd''.2
        refine ⟨fun hh=>?_,g2⟩
        rcases hdom _ hh with h'|h'
        ·exact g1 h'
        ·simp only[Prod.mk.injEq] at h';exact hd''.1 h'.2
       have hrun:(execOp a.eval o).run P c.w=.ok (.value z) c'.w:=by
        rw [hex,ha,hat']
        simp only[builtin,Sem.run_bind,hr,Result.andThen_ok]
        rfl
       rcases hout with ⟨hz,S'⟩|⟨hz,S'⟩
       ·exact wpIn_value hnd (x:=z) (w':=c'.w) hrun (hn c' lb (AS.set { s with h:=_ } o.dst _) _ (S'.put (hz.vl lb) hd') hfr (by rw [AS.set_h];exact hk) (by rw [hdst];exact hK1))
       ·exact wpIn_value hnd (x:=z) (w':=c'.w) hrun (hn c' lb (AS.set { s with h:=_ } o.dst _) _ (S'.put (hz.vl lb) hd') hfr (by rw [AS.set_h];exact hk) (by rw [hdst];exact hK2))
      obtain ⟨⟨v,h'⟩,hres',hK'⟩:=hK
      obtain ⟨c',z,hr,hz,S',hdom,hclk⟩:=S.append T (id:=(k0,d)) hf1 hk hk0 (hE x) (hE y) hres' o.type
      have ha:cl.args.map a.eval=#[a.eval x,a.eval y]:=by rw [← Array.toArray_toList (xs:=cl.args),hargs];simp
      have hat':cl.argTypes=#[t,t]:=by rw [← Array.toArray_toList (xs:=cl.argTypes),hat]
      refine wpIn_value hnd (x:=z) (w':=c'.w) ?_ (hn c' lb (AS.set { s with h:=h' } o.dst v) _ (S'.put (hz.vl lb) hd') ?_ (by rw [AS.set_h];show k0 < h'.clk;rw [hclk];exact hk) (by rw [hdst];exact hK'))
      ·rw [hex,ha,hat']
       simp only[builtin,Sem.run_bind,hr,Result.andThen_ok]
       rfl
      ·intro d' hd''
       rw [hdst] at hd''
       simp only[Option.toList_some,List.singleton_append,List.mem_cons,not_or] at hd''
       obtain ⟨g1,g2⟩:=hF d' hd''.2
       refine ⟨fun hh=>?_,g2⟩
       rcases hdom _ hh with h'|h'
       ·exact g1 h'
       ·simp only[Prod.mk.injEq] at h';exact hd''.1 h'.2
     ·exact hK.elim
    ·exact hK.elim
   ·-- copy
    rename_i x y t t' hargs hat
    obtain ⟨⟨v,h'⟩,hres',hK'⟩:=hK
    obtain ⟨c',hr,S',hdom,hclk⟩:=S.copy T (hE x) (hE y) hres' t' o.type
    have ha:cl.args.map a.eval=#[a.eval x,a.eval y]:=by rw [← Array.toArray_toList (xs:=cl.args),hargs];simp
    have hat':cl.argTypes=#[t,t']:=by rw [← Array.toArray_toList (xs:=cl.argTypes),hat]
    refine wpIn_value hnd (x:=.int .i64 v) (w':=c'.w) ?_ (hn c' lb (AS.set { s with h:=h' } o.dst (.int .i64 v)) _ (S'.put (VL_int.2 rfl) hd') ?_ (by rw [AS.set_h];show k0 < h'.clk;rw [hclk];exact hk) hK')
    ·rw [hex,ha,hat']
     simp only[builtin,Sem.run_bind,hr,Result.andThen_ok]
     rfl
    ·intro d' hd''
     obtain ⟨g1,g2⟩:=hFm d' hd''
     exact ⟨fun hh=>g1 (by rw [← hdom];exact hh),g2⟩
   ·exact hK.elim
  ·-- a function's value
   rename_i f hcal
   obtain ⟨hnl,hK'⟩:=hK
   have hf:=hE f
   have hargs:=VRs.of_list hE cl.args.toList hnl
   have next_:∀ (e:Ending) (w':World),Ends c s.h (fun v h'=>K (AS.set { s with h:=h' } o.dst v)) e w'→(match e,w' with
     | .returned v,w''=>next (a.put o.dst v) w''
     | .panicked chain,w''=>Q (.panic chain) a w''
     | .outgrown,_=>LetsOut Q):=by
    rintro e w' ⟨v,x,c',h',rfl,rfl,hx,H',E,hdn,hKv⟩
    have S':=S.go H' E (fun b hb=>(hdn b hb).imp id (fun h=>Nat.le_trans S.evo.clk h))
    refine hn c' lb (AS.set { s with h:=h' } o.dst v) _ (S'.put (hx.vl lb) hd') (fun d hd''=>?_) (by rw [AS.set_h];exact Nat.lt_of_lt_of_le hk E.clk) hKv
    obtain ⟨g1,g2⟩:=hFm d hd''
    refine ⟨fun hh=>?_,g2⟩
    rcases hdn _ hh with h'|h'
    ·exact g1 h'
    ·exact absurd hk (Nat.not_lt.2 h')
   unfold AFn at hK'
   split at hK'
   ·rename_i g first cap hv
    rw [hv] at hf
    have hf':VR c (.fn (.func g) first cap) (a.eval f):=hf
    simp only[VR] at hf'
    obtain ⟨xs,ys,hfe,h1,h2⟩:=hf'
    have hall:=(h1.append hargs).append h2
    have hres:(resolve a.eval cl o.type).run P c.w=.ok { target:=.fn (.func g) ys.toArray,args:=xs.toArray ++ cl.args.map a.eval } c.w:=by
     unfold resolve;rw [hcal];simp only[Deferred.ofValue,hfe];rfl
    have hex:(execOp a.eval o).run P c.w=.ok (.enter g (xs ++ cl.args.toList.map a.eval ++ ys).toArray) c.w:=by
     unfold execOp
     simp only[ho,Sem.run_bind,hres,Result.andThen_ok,invoke]
     rw [hK'.1]
     congr 2
     simp
    refine wpIn_of_run hnd ?_
    rw [hex]
    exact ⟨fun h=>by simp at h,(callsIn_round (hK'.2 c _ S.hr hall)).mono next_⟩
   ·rename_i l hv
    rw [hv] at hf
    have hf':VR c (.fn (.yield l) [] []) (a.eval f):=hf
    simp only[VR,VRs] at hf'
    obtain ⟨xs,ys,hfe,rfl,rfl⟩:=hf'
    obtain ⟨fn,tmps,assign,body,hy,hR⟩:=hK' c _ S.hr hargs
    have hres:(resolve a.eval cl o.type).run P c.w=.ok { target:=.fn (.yield l) #[],args:=cl.args.map a.eval } c.w:=by
     unfold resolve;rw [hcal];simp only[Deferred.ofValue,hfe];simp
    have hex:(execOp a.eval o).run P c.w=.ok (.round l fn tmps assign body) c.w:=by
     unfold execOp
     simp only[ho,Sem.run_bind,hres,Result.andThen_ok,invoke]
     rw [show cl.args.map a.eval=(cl.args.toList.map a.eval).toArray from by rw [← List.map_toArray,Array.toArray_toList]]
     exact hy
    refine wpIn_of_run hnd ?_
    rw [hex]
    exact ⟨fun h=>by simp at h,(AYields.run (r:=r) hR).mono next_⟩
   ·exact hK'.elim
  ·exact hK.elim
 ·-- a map is made
  rename_i t ho
  split at hK
  ·rename_i d hdst
   have hl:s.h.lp c.w.heap.size=none:=by
    cases hx:s.h.lp c.w.heap.size with
    | none=>rfl
    | some x =>
     obtain ⟨o',ho'⟩:=(S.hr.lp _ x hx).obj
     exact absurd (Array.getElem?_eq_some_iff.1 ho').1 (Nat.lt_irrefl _)
   obtain ⟨H',E⟩:=S.hr.lpNew (.map #[] 0) (mrec []) (LP.ofMap rfl ⟨#[],0,heap_alloc_new c.w _,rfl⟩)
   have S':=S.go H' E (fun _ h=>.inl h)
   have hex:(execOp a.eval o).run P c.w=.ok (.value (.map (some c.w.heap.size))) (c.w.alloc (.map #[] 0)):=by
    unfold execOp;simp only[ho];rfl
   refine wpIn_value (by rw [ho];simp) hex ?_
   rw [hdst]
   exact hn _ lb _ _ (S'.put (v:=.mp c.w.heap.size) (x:=.map (some c.w.heap.size)) (by simp [VL,VR]) (fun d' h'=>hd' d' (by rw [hdst];exact h'))) (fun d h=>hFm d h) (by rw [AS.set_h];exact hk) (hK _ hl)
  ·exact hK.elim
 ·-- an entry is written
  rename_i t m k x ho
  obtain ⟨kt,et,l,n,R,L,hu,hk1,em,ek,hnx,hR,hL,hK'⟩:=hK
  have hm:=hE m
  rw [em] at hm
  have hm':a.eval m=.map (some l):=by simpa [VL,VR] using hm
  have hkk:=hE k
  rw [ek,VL_int] at hkk
  obtain ⟨es,clock,hw,hrel⟩:=(S.hr.lp l R hR).map hL
  obtain ⟨es',clock',hrun,hrel'⟩:=run_mapUp (n:=n) hu hk1 hw hrel ((hE x).vr hnx)
  obtain ⟨hnew,hold⟩:=MapKept.heap_set (o':=.map es' clock') hw
  obtain ⟨H',E⟩:=S.hr.lpPut hR (w':={ c.w with heap:=c.w.heap.setIfInBounds l (.map es' clock') }) hold (by simp) rfl rfl rfl (mrec (aset L n (s.ev x))) (fun hle=>LP.ofMap rfl ⟨es',clock',hnew,MRel.mono hle _ _ hrel'⟩)
  have S':=S.go H' E (fun _ h=>.inl h)
  have hex:(execOp a.eval o).run P c.w=.ok .skip { c.w with heap:=c.w.heap.setIfInBounds l (.map es' clock') }:=by
   unfold execOp;simp only[ho,hm',hkk,Sem.run_bind,hrun,Result.andThen_ok];rfl
  refine wpIn_of_run (by rw [ho];simp) ?_
  rw [hex]
  exact hn _ lb _ _ (S'.put (v:=.tup []) (x:=undef) (by simp only[VL,VR];exact ⟨[],rfl,VRs.nil⟩) hd') (fun d h=>hFm d h) (by rw [AS.set_h];exact hk) hK'
 ·-- an entry of a literal
  rename_i t m k x ho
  obtain ⟨kt,et,l,n,R,L,hu,hk1,em,ek,hnx,hR,hL,hK'⟩:=hK
  have hm:=hE m
  rw [em] at hm
  have hm':a.eval m=.map (some l):=by simpa [VL,VR] using hm
  have hkk:=hE k
  rw [ek,VL_int] at hkk
  obtain ⟨es,clock,hw,hrel⟩:=(S.hr.lp l R hR).map hL
  obtain ⟨es',clock',hrun,hrel'⟩:=run_mapUp (n:=n) hu hk1 hw hrel ((hE x).vr hnx)
  obtain ⟨hnew,hold⟩:=MapKept.heap_set (o':=.map es' clock') hw
  obtain ⟨H',E⟩:=S.hr.lpPut hR (w':={ c.w with heap:=c.w.heap.setIfInBounds l (.map es' clock') }) hold (by simp) rfl rfl rfl (mrec (aset L n (s.ev x))) (fun hle=>LP.ofMap rfl ⟨es',clock',hnew,MRel.mono hle _ _ hrel'⟩)
  have S':=S.go H' E (fun _ h=>.inl h)
  have hex:(execOp a.eval o).run P c.w=.ok .skip { c.w with heap:=c.w.heap.setIfInBounds l (.map es' clock') }:=by
   unfold execOp;simp only[ho,hm',hkk,Sem.run_bind,hrun,Result.andThen_ok];rfl
  refine wpIn_of_run (by rw [ho];simp) ?_
  rw [hex]
  exact hn _ lb _ _ (S'.put (v:=.tup []) (x:=undef) (by simp only[VL,VR];exact ⟨[],rfl,VRs.nil⟩) hd') (fun d h=>hFm d h) (by rw [AS.set_h];exact hk) hK'
 ·-- a key is looked up
  rename_i t m k okc ho
  obtain ⟨kt,et,l,n,R,L,i,z,hu,hk1,hi,hz,em,ek,hR,hL,hK'⟩:=hK
  have hm:=hE m
  rw [em] at hm
  have hm':a.eval m=.map (some l):=by simpa [VL,VR] using hm
  have hkk:=hE k
  rw [ek,VL_int] at hkk
  obtain ⟨es,clock,hw,hrel⟩:=(S.hr.lp l R hR).map hL
  obtain ⟨x,hrun,hx⟩:=run_mapGet (n:=n) (ok:=okc) hu hk1 hw hrel hi hz
  have hex:(execOp a.eval o).run P c.w=.ok (.value (if okc then .tuple #[x,.bool (aget L n).isSome] else x)) c.w:=by
   unfold execOp;simp only[ho,hm',hkk,Sem.run_bind,hrun,Result.andThen_ok];rfl
  refine wpIn_value (by rw [ho];simp) hex ?_
  refine hn _ lb _ _ (S.put (v:=if okc then .tup [(aget L n).getD (ofVal z),.bool (aget L n).isSome] else (aget L n).getD (ofVal z)) ?_ hd') hFm (by rw [AS.set_h];exact hk) hK'
  cases okc
  ·exact hx.vl lb
  ·simp only[if_true,VL,VR]
   exact ⟨[x,.bool (aget L n).isSome],rfl,VRs.cons hx (VRs.cons (by simp [VR]) VRs.nil)⟩
 ·-- all else
  refine pv (fun cl hcl=>?_) hK
  rw [hcl] at hK
  obtain ⟨v,hv,_⟩:=hK
  simp [pval] at hv
end Go.Av
