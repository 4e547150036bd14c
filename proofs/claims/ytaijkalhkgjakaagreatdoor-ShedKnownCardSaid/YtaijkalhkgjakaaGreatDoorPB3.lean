/- strings.Builder in the concrete world, with a frame that names the two blocks that a write touches, and where the new row lies. -/
import Derived.Shelf.Strings.Builder1
import Derived.Test.YtaijkalhkgjakaaGreatDoorBaseD
import Derived.Lib.AtoiAll
import Derived.Lib.ItoaMem
import Derived.Lib.ItoaLen
import Derived.Lib.SplitLaws
import Derived.Lib.CountLaws
import Derived.Shelf.Strings.Split
import Derived.Shelf.Strconv.Itoa3
import Derived.Shelf.Strconv.AtoiAll
import Derived.Lib.AtoiErrMem
set_option linter.all false
set_option linter.unusedSimpArgs false
set_option linter.unusedVariables false
namespace Go.Txt
open Go.Shelf Go.RowKit Go.Proofs Go.Lib
variable {P:Program} {ρ:Ren}
theorem owns_mono {w:World} {B B':Nat} {e:TypeId} {sz:Nat} {v:Value} {n:Nat} {xs:List Value} (hB:B'≤B) (h:w.ownsRow B e sz v n xs):w.ownsRow B' e sz v n xs :=
 ⟨h.1,h.2.imp id fun ⟨g,cap,cur,h1,h2,h3⟩=>⟨g,cap,cur,h1,Nat.le_trans hB h2,h3⟩⟩
def At (w:World) (v v':Value):Prop:=v'.ownBlock=v.ownBlock ∨ ∃ g,v'.ownBlock=some g∧w.heap.size≤g
theorem At.of_owns {w w':World} {e:TypeId} {sz:Nat} {v v':Value} {n:Nat} {xs:List Value} (hv:v=.slice none 0 0) (h:w'.ownsRow w.heap.size e sz v' n xs):At w v v':=by
 subst hv
 rcases h.2 with ⟨rfl,_⟩|⟨g,cap,cur,rfl,h2,_⟩
 ·exact .inl rfl
 ·exact .inr ⟨g,rfl,h2⟩
section
variable {w:World}
theorem app_str_at (t u ty e:TypeId) (i:TypeInfo) (ht:P.underlying t=some (.slice e)) (hu:P.underlying u=some .string) (hi:P.info? e=some i) (hz:i.zero=some (.int .u8 0)) (hsize:i.size=1) (hby:i.bytes=1)
  (v:Value) (n:Nat) (xs:List Value) (hown:w.ownsRow 0 e 1 v n xs) (s:ByteArray) (h63:n+s.size≤maxLen) (hbytes:n+s.size≤140737488355328) :
  ∃ v' w',(Builtin.append_ #[t,u] ty #[v,.string s]).run P w=.ok v' w'∧w'.ownsRow 0 e 1 v' (n+s.size) (xs ++ strCells s)∧w.grownBy w' v.ownBlock∧At w v v':=by
 rcases hown.2 with ⟨rfl,rfl⟩|⟨g,cap,cur,rfl,hbg,hg,hnc,hcm,hcs,htake⟩
 ·obtain ⟨v',w',hr,h1,h2,_⟩:=run_append_own_string (P:=P) w w.heap.size t u ty e i ht hu hi hz hsize hby _ 0 xs ⟨hown.1,.inl ⟨rfl,rfl⟩⟩ s h63 hbytes (Nat.le_refl _)
  exact ⟨v',w',hr,owns_mono (Nat.zero_le _) h1,h2,At.of_owns rfl h1⟩
 ·obtain ⟨v',w',hr,h1,h2,_⟩:=run_append_own_string (P:=P) w 0 t u ty e i ht hu hi hz hsize hby _ n xs hown s h63 hbytes (Nat.zero_le _)
  refine ⟨v',w',hr,h1,h2,?_⟩
  have hcs':cur.size=cap:=by simpa using hcs
  by_cases hroom:n+s.size≤cap
  ·have hr2:=run_append_room_string (P:=P) w t u ty e i ht hu hi hsize g n cap cur hg s hroom (by omega)
   rw [hr] at hr2
   obtain ⟨rfl,_⟩:=Result.ok.inj hr2
   exact .inl rfl
  ·have hxl:xs.length=n:=by simpa using hown.1
   have holds:∀ j u,xs[j]?=some u→w.cell? ((⟨g,0,none⟩:Addr).add j)=some u:=hown.cells (g:=g) rfl
   have hr2:=run_append_grow_string (P:=P) w t u ty e i (.int .u8 0) ht hu hi hz ⟨g,0,none⟩ n cap xs (by rw [hsize];simpa using hxl) holds s (by omega) (by unfold maxLen at h63;omega) (by rw [hby];exact growslice_fits (by omega) (by omega))
   rw [hr] at hr2
   obtain ⟨rfl,_⟩:=Result.ok.inj hr2
   exact .inr ⟨_,rfl,Nat.le_refl _⟩
theorem app_one_at (t ty e:TypeId) (i:TypeInfo) (ht:P.underlying t=some (.slice e)) (hi:P.info? e=some i) (hz:i.zero=some (.int .u8 0)) (hsize:i.size=1) (hby:i.bytes=1)
  (v:Value) (n:Nat) (xs:List Value) (hown:w.ownsRow 0 e 1 v n xs) (ad:Addr) (c:Int) (hc:w.cell? ad=some (.int .u8 c)) (hbytes:n+1≤140737488355328) :
  ∃ v' w',(Builtin.append_ #[t,t] ty #[v,.slice (some ad) 1 1]).run P w=.ok v' w'∧w'.ownsRow 0 e 1 v' (n+1) (xs ++ [.int .u8 c])∧w.grownBy w' v.ownBlock∧At w v v':=by
 have h63:n+1≤maxLen:=by unfold maxLen;omega
 have hl:([.int .u8 c]:List Value).length=1 * 1:=rfl
 have hnews:∀ j u,([.int .u8 c]:List Value)[j]?=some u→w.cell? (ad.add j)=some u:=by
  intro j u hj
  match j,hj with
  | 0,hj=>simp at hj;subst hj;exact hc
 have h1':∀ u ∈ ([.int .u8 c]:List Value),u.oneCell'=true:=by intro u hu;simp at hu;subst hu;rfl
 rcases hown.2 with ⟨rfl,rfl⟩|⟨g,cap,cur,rfl,hbg,hg,hnc,hcm,hcs,htake⟩
 ·obtain ⟨v',w',hr,h1,h2,_⟩:=run_append_own (P:=P) w w.heap.size t ty e i (.int .u8 0) 1 1 ht hi hz hsize hby rfl (by decide) _ 0 xs ⟨hown.1,.inl ⟨rfl,rfl⟩⟩ ad 1 1 _ hl hnews h1' h63 (by omega) (Nat.le_refl _)
  exact ⟨v',w',hr,owns_mono (Nat.zero_le _) h1,h2,At.of_owns rfl h1⟩
 ·obtain ⟨v',w',hr,h1,h2,_⟩:=run_append_own (P:=P) w 0 t ty e i (.int .u8 0) 1 1 ht hi hz hsize hby rfl (by decide) _ n xs hown ad 1 1 _ hl hnews h1' h63 (by omega) (Nat.zero_le _)
  refine ⟨v',w',hr,h1,h2,?_⟩
  have hcs':cur.size=cap:=by simpa using hcs
  by_cases hroom:n+1≤cap
  ·have hr2:=run_append_room (P:=P) w t ty e i ht hi g n cap cur hg ad 1 1 _ (by rw [hsize];rfl) hnews h1' hroom (by rw [hsize];simp;omega)
   rw [hr] at hr2
   obtain ⟨rfl,_⟩:=Result.ok.inj hr2
   exact .inl rfl
  ·have hxl:xs.length=n:=by simpa using hown.1
   have holds:∀ j u,xs[j]?=some u→w.cell? ((⟨g,0,none⟩:Addr).add j)=some u:=hown.cells (g:=g) rfl
   have hr2:=run_append_grow (P:=P) w t ty e i (.int .u8 0) ht hi hz ⟨g,0,none⟩ n cap xs (by rw [hsize];simpa using hxl) holds ad 1 1 _ (by rw [hsize];rfl) hnews (by omega) (by unfold maxLen at h63;omega) (growslice_fits (by omega) (by rw [hby];omega))
   rw [hr] at hr2
   obtain ⟨rfl,_⟩:=Result.ok.inj hr2
   exact .inr ⟨_,rfl,Nat.le_refl _⟩
theorem wpList_app {ops:Array Oper} {rest:List Oper} {o:Oper} {a:Act} {Q:Exit→Act→World→Prop} (hgd:o.guard=none) (sl x:Operand) (t u:TypeId)
  (ho:o.op=.call { callee:=.builtin .append,args:=#[sl,x],argTypes:=#[t,u] }) (v xv v':Value) (w':World) (hs:a.eval sl=v) (hx:a.eval x=xv)
  (hr:(Builtin.append_ #[t,u] o.type #[v,xv]).run P w=.ok v' w') (h:wpList P ops Q rest (a.put o.dst v') w'):wpList P ops Q (o :: rest) a w:=by
 refine wpList_plain hgd fun K hK=>?_
 unfold Oper.wp execOp
 simp only[ho,resolve,invoke,builtin,Sem.run_bind,Sem.run_pure,Result.andThen_ok,List.map_toArray,List.map_cons,List.map_nil,hs,hx,hr]
 exact hK _ _ h
end
def BAt (T e:TypeId) (b:Nat) (p v:Value) (bs:List Value) (w:World):Prop :=
 w.heap[b]?=some (.cells #[p,v] T (0,0))∧w.ownsRow 0 e 1 v bs.length bs∧v.ownBlock ≠ some b
structure Fr (b:Nat) (v:Value) (w w':World):Prop where
 os:w'.os=w.os
 tape:w'.tape=w.tape
 output:w'.output=w.output
 size:w.heap.size≤w'.heap.size
 block:∀ k,k < w.heap.size→k ≠ b→v.ownBlock ≠ some k→w'.heap[k]?=w.heap[k]?
theorem BAt.lt {T e:TypeId} {b:Nat} {p v:Value} {bs:List Value} {w:World} (h:BAt T e b p v bs w):b < w.heap.size:=(Array.getElem?_eq_some_iff.1 h.1).1
theorem owns_lt {w:World} {B:Nat} {e:TypeId} {sz:Nat} {v:Value} {n:Nat} {xs:List Value} (h:w.ownsRow B e sz v n xs) {g:Nat} (hg:v.ownBlock=some g):g < w.heap.size:=by
 rcases h.2 with ⟨rfl,_⟩|⟨g',cap,cur,rfl,_,h3,_⟩
 ·cases hg
 ·cases hg;exact (Array.getElem?_eq_some_iff.1 h3).1
theorem owns_of {w w':World} {B:Nat} {e:TypeId} {sz:Nat} {v:Value} {n:Nat} {xs:List Value} (h:w.ownsRow B e sz v n xs) (hk:∀ g,v.ownBlock=some g→w'.heap[g]?=w.heap[g]?):w'.ownsRow B e sz v n xs :=
 ⟨h.1,h.2.imp id fun ⟨g,cap,cur,h1,h2,h3,h4⟩=>⟨g,cap,cur,h1,h2,(hk g (by rw [h1];rfl)).trans h3,h4⟩⟩
theorem wr_fin {T e:TypeId} {b:Nat} {p v v':Value} {bs bs':List Value} {w w1 w2:World} (hne:T ≠ e) (h1:BAt T e b p v bs w1) (hsz:w1.heap.size=w.heap.size) (hos:w1.os=w.os) (htp:w1.tape=w.tape) (hou:w1.output=w.output)
  (hk1:∀ k,k ≠ b→w1.heap[k]?=w.heap[k]?) (hb2:w2.heap[b]?=some (.cells #[p,v] T (0,0))) (hg:w1.grownBy w2 v.ownBlock) (hown:w2.ownsRow 0 e 1 v' bs'.length bs') (hat:At w1 v v') :
  ∃ v'',BAt T e b p v'' bs' (w2.setCell ⟨b,1,none⟩ v')∧Fr b v w (w2.setCell ⟨b,1,none⟩ v')∧At w v v'':=by
 have hk2:∀ k,k ≠ b→(w2.setCell ⟨b,1,none⟩ v').heap[k]?=w2.heap[k]?:=fun k hk=>Below.heap_setCell _ _ _ _ hk
 have hv':v'.ownBlock ≠ some b:=by
  intro e1
  rcases hown.2 with ⟨rfl,_⟩|⟨g,cap,cur,rfl,_,h3,_⟩
  ·cases e1
  ·cases e1
   rw [hb2] at h3
   injection h3 with h3
   injection h3 with _ h3
   exact hne h3
 refine ⟨v',⟨?_,owns_of hown (fun g hg=>hk2 g (fun e=>hv' (by rw [hg,e]))),hv'⟩,⟨hg.os.trans hos,hg.tape.trans htp,hg.output.trans hou,?_,fun k hk hkb hkv=>?_⟩,?_⟩
 ·simp only[World.setCell,Array.getElem?_modify,if_true,hb2]
  rfl
 ·have:=hg.size
  simp [World.setCell];omega
 ·exact (hk2 k hkb).trans ((hg.block k (by omega) (fun e=>hkv e.symm)).trans (hk1 k hkb))
 ·rwa [At,hsz] at hat
theorem fr_freeze {b g n cap:Nat} {w:World}:Fr b (.slice (some ⟨g,0,none⟩) n cap) w (w.drew.freeze ⟨g,0,none⟩ n):=by
 refine ⟨?_,?_,?_,?_,fun k hk hb hg=>?_⟩
 ·unfold World.freeze;split <;> rfl
 ·unfold World.freeze;split <;> rfl
 ·unfold World.freeze;split <;> rfl
 ·unfold World.freeze;split <;> simp
 ·have hg':¬ g=k:=fun e=>hg (by rw [Value.ownBlock,e])
  unfold World.freeze
  split
  ·rfl
  ·simp only[Array.getElem?_modify,if_neg hg']
   rfl
set_option maxHeartbeats 1000000 in
set_option maxRecDepth 100000 in
theorem Wr_Done (L:Lays.n169 P ρ) (X:Builder.Extra P ρ) (b:Nat) (p v:Value) (l:List UInt8) (w:World) (h:BAt (ρ.t 72) (ρ.t 5) b p v (byteCells l) w) (h0:l ≠ []) :
  Calls P (ρ.f 169) #[.pointer (some ⟨b,0,none⟩)] w fun e w'=>e=.returned (.string ⟨l.toArray⟩)∧Fr b v w w':=by
 obtain ⟨hbk,hown,hne⟩:=h
 have hl0:l.length ≠ 0:=by simpa using h0
 rw [Lib.byteCells_length] at hown
 obtain ⟨g,cap,cur,rfl,hbg,hg,hnc,hcm,hcs,htake⟩:∃ g cap cur,v=.slice (some ⟨g,0,none⟩) l.length cap∧0≤g∧w.heap[g]?=some (.cells cur (ρ.t 5) (0,0))∧l.length≤cap∧cap≤maxLen∧cur.size=cap * 1∧cur.toList.take (l.length * 1)=Lib.byteCells l:=by
  rcases hown.2 with ⟨_,hz⟩|⟨g,cap,cur,hv,r⟩
  ·exact absurd hz hl0
  ·exact ⟨g,cap,cur,hv,r⟩
 have c1:w.drew.cell? ⟨b,1,none⟩=some (.slice (some ⟨g,0,none⟩) l.length cap):=by
  have:w.drew.heap[b]?=some (.cells #[p,.slice (some ⟨g,0,none⟩) l.length cap] (ρ.t 72) (0,0)):=hbk
  rw [Lib.cell_of_heap this];rfl
 have hSD:(Builtin.unsafeSliceData_ #[(ρ.t 37)] (ρ.t 127) #[.slice (some ⟨g,0,none⟩) l.length cap]).run P w.drew=.ok (.pointer (some ⟨g,0,none⟩)) w.drew :=
  Lib.run_unsafeSliceData_row _ _ _ _ _ _ (by omega)
 have hUS:(Builtin.unsafeString_ #[(ρ.t 127),(ρ.t 3)] (ρ.t 9) #[.pointer (some ⟨g,0,none⟩),.int .i64 l.length]).run P w.drew=.ok (.string ⟨l.toArray⟩) (w.drew.freeze ⟨g,0,none⟩ l.length):=by
  refine Lib.run_unsafeString_row w.drew (ρ.t 127) (ρ.t 3) (ρ.t 9) (ρ.t 5) L.t127 X.cellsByte g cur.size (by have hg':w.drew.heap[g]?=some (.cells cur (ρ.t 5) (0,0)):=hg;simp [World.shape?,hg']) l h0 (by omega) (by unfold maxLen at hcm;omega) ?_
  intro j x hx
  exact hown.cells (g:=g) rfl j (.int .u8 x.toNat) (by simp [Lib.byteCells,hx])
 have mixed:=L.mixed
 have t72:=L.t72;have a72:=L.a72;have z72:=L.z72;have v72:=L.v72;have u72:=run_underlying L.t72
 have t70:=L.t70;have a70:=L.a70;have z70:=L.z70;have v70:=L.v70;have u70:=run_underlying L.t70
 have t37:=L.t37;have a37:=L.a37;have z37:=L.z37;have v37:=L.v37;have u37:=run_underlying L.t37
 have t127:=L.t127;have a127:=L.a127;have z127:=L.z127;have v127:=L.v127;have u127:=run_underlying L.t127
 have t3:=L.t3;have a3:=L.a3;have z3:=L.z3;have v3:=L.v3;have u3:=run_underlying L.t3
 have t9:=L.t9;have a9:=L.a9;have z9:=L.z9;have v9:=L.v9;have u9:=run_underlying L.t9
 have t5:=X.t5;have a5:=X.a5;have z5:=X.z5;have v5:=X.v5;have u5:=run_underlying X.t5
 go_enter L.f169,Body.n169_ntmps ρ
 go_wp2
 go_region_o
 all_goals (go_wp2;go_ret;exact ⟨rfl,fr_freeze⟩)
end Go.Txt

namespace Go.Av
open Go.Shelf Go.RowKit Go.Proofs Go.Lib Go.Txt
variable {P:Program}
def orec (cs:Array Value) (ty:TypeId):LRec:=⟨{ state:=.ready,pending:=none,fn:=0,tmps:=#[],params:=#[],assign:=.skip,body:=.skip,defers:=0 },fun _=>.undef,some (.o cs ty)⟩
theorem LP.orec {c:Cx} {l:Nat} {cs:Array Value} {ty:TypeId}:LP c l (Av.orec cs ty) ↔ c.w.heap[l]?=some (.cells cs ty (0,0)):=Iff.rfl
def Bd1 (T e:TypeId) (h:AH) (l:Nat) (v:Value) (bs:List UInt8):Prop :=
 ∃ p,(p=.pointer none ∨ p=.pointer (some ⟨l,0,none⟩))∧h.lp l=some (orec #[p,v] T) ∧
  ((v=.slice none 0 0∧bs=[]) ∨ ∃ g cap cur,v=.slice (some ⟨g,0,none⟩) bs.length cap∧h.lp g=some (orec cur e)∧g ≠ l∧bs.length≤cap∧cap≤maxLen∧cur.size=cap * 1∧cur.toList.take (bs.length * 1)=byteCells bs)
theorem Bd1.at_ {T e:TypeId} {c:Cx} {h:AH} (H:HRel c h) {l:Nat} {v:Value} {bs:List UInt8} (hB:Bd1 T e h l v bs):∃ p,(p=.pointer none ∨ p=.pointer (some ⟨l,0,none⟩))∧BAt T e l p v (byteCells bs) c.w:=by
 obtain ⟨p,hp,hl,hv⟩:=hB
 refine ⟨p,hp,LP.orec.1 (H.lp l _ hl),⟨by rw [Lib.byteCells_length];simp,?_⟩,?_⟩
 ·rw [Lib.byteCells_length]
  rcases hv with ⟨rfl,rfl⟩|⟨g,cap,cur,rfl,hg,_,h1,h2,h3,h4⟩
  ·exact .inl ⟨rfl,rfl⟩
  ·exact .inr ⟨g,cap,cur,rfl,Nat.zero_le _,LP.orec.1 (H.lp g _ hg),h1,h2,h3,h4⟩
 ·rcases hv with ⟨rfl,rfl⟩|⟨g,cap,cur,rfl,hg,hne,_⟩
  ·intro q;cases q
  ·intro q;cases q;exact hne rfl
theorem Bd1.own {T e:TypeId} {h:AH} {l:Nat} {v:Value} {bs:List UInt8} (hB:Bd1 T e h l v bs) {g:Nat} (hg:v.ownBlock=some g):∃ r,h.lp g=some r:=by
 obtain ⟨p,hp,hl,hv⟩:=hB
 rcases hv with ⟨rfl,rfl⟩|⟨g',cap,cur,rfl,hg',_⟩
 ·cases hg
 ·cases hg;exact ⟨_,hg'⟩
def bdPut (h:AH) (l:Nat) (v:Value) (r1:LRec) (n2:Option (Nat × LRec)):AH :=
 { h with lp:=fun i=>if i=l then some r1 else if (n2.map (·.1))=some i then n2.map (·.2) else if v.ownBlock=some i then none else h.lp i }
theorem bd_go {T e:TypeId} {c:Cx} {h:AH} (H:HRel c h) {l:Nat} {v v':Value} {bs bs':List UInt8} (hB:Bd1 T e h l v bs) {w':World}
  (hB':BAt T e l (.pointer (some ⟨l,0,none⟩)) v' (byteCells bs') w') (hF:Fr l v c.w w') (hA:At c.w v v') :
  ∃ h',HRel { c with w:=w' } h'∧Evo c h { c with w:=w' } h'∧Bd1 T e h' l v' bs'∧h'.at_=h.at_∧h'.clk=h.clk∧h'.gl=h.gl ∧
   (∀ i,i ≠ l→v.ownBlock ≠ some i→v'.ownBlock ≠ some i→h'.lp i=h.lp i):=by
 obtain ⟨p,hp,hl,hv⟩:=id hB
 obtain ⟨b1,b2,b3⟩:=hB'
 have hll:l < c.w.heap.size:=RW.lt H (.inr ⟨_,hl⟩)
 have hli:=H.lpim l _ hl
 have hown:∀ g,v.ownBlock=some g→∃ r,h.lp g=some r:=fun g hg=>hB.own hg
 have hgi:∀ g,v.ownBlock=some g→¬ c.im g:=fun g hg=>let ⟨r,hr⟩:=hown g hg;H.lpim g r hr
 have hga:∀ g,v.ownBlock=some g→∀ a k,h.at_ a=some k→(c.fm a).blk ≠ g:=fun g hg a k ha=>let ⟨r,hr⟩:=hown g hg;H.lpat a k g r ha hr
 -- the new row
 obtain ⟨n2,hn2,hv'⟩:∃ n2:Option (Nat × LRec),n2.map (·.1)=v'.ownBlock ∧
   ((v'=.slice none 0 0∧bs'=[]∧n2=none) ∨ ∃ g cap cur,v'=.slice (some ⟨g,0,none⟩) bs'.length cap∧n2=some (g,orec cur e)∧w'.heap[g]?=some (.cells cur e (0,0))∧g ≠ l∧bs'.length≤cap∧cap≤maxLen∧cur.size=cap * 1∧cur.toList.take (bs'.length * 1)=byteCells bs'):=by
  rw [Lib.byteCells_length] at b2
  rcases b2.2 with ⟨rfl,h0⟩|⟨g,cap,cur,rfl,_,h3,h4,h5,h6,h7⟩
  ·exact ⟨none,rfl,.inl ⟨rfl,List.eq_nil_of_length_eq_zero h0,rfl⟩⟩
  ·exact ⟨some (g,orec cur e),rfl,.inr ⟨g,cap,cur,rfl,rfl,h3,fun q=>b3 (by rw [← q];rfl),h4,h5,h6,h7⟩⟩
 have hn2r:∀ g r,n2=some (g,r)→LP { c with w:=w' } g r∧g ≠ l∧(v.ownBlock=some g ∨ c.w.heap.size≤g)∧g < w'.heap.size:=by
  rintro g r rfl
  rcases hv' with ⟨_,_,q⟩|⟨g',cap,cur,rfl,q,h3,h4,_⟩
  ·cases q
  ·cases q
   refine ⟨LP.orec.2 h3,h4,?_,(Array.getElem?_eq_some_iff.1 h3).1⟩
   rcases hA with q|⟨g2,q,h5⟩
   ·exact .inl q.symm
   ·cases q;exact .inr h5
 let h':AH:=bdPut h l v (orec #[.pointer (some ⟨l,0,none⟩),v'] T) n2
 have lp_:∀ i r,h'.lp i=some r→(i=l∧r=orec #[.pointer (some ⟨l,0,none⟩),v'] T) ∨ n2=some (i,r) ∨ (i ≠ l∧v.ownBlock ≠ some i∧h.lp i=some r):=by
  intro i r hi
  simp only[h',bdPut] at hi
  split at hi
  ·cases hi;exact .inl ⟨by assumption,rfl⟩
  ·rename_i hil
   split at hi
   ·rename_i hn
    cases n2 with
    | none=>cases hn
    | some q=>cases hn;cases hi;exact .inr (.inl rfl)
   ·split at hi
    ·cases hi
    ·exact .inr (.inr ⟨hil,by assumption,hi⟩)
 have hle:c.Le { c with w:=w' }:=⟨fun _ h=>h,fun _ _=>rfl,fun _ h=>h,fun i hi=>hF.block i (H.imlt i hi) (fun q=>hli (q ▸ hi)) (fun q=>hgi i q hi)⟩
 have hatk:∀ a k,h.at_ a=some k→w'.heap[(c.fm a).blk]?=c.w.heap[(c.fm a).blk]?:=fun a k ha =>
  hF.block _ (RW.lt H (.inl ⟨a,k,ha,rfl⟩)) (H.lpat a k l _ ha hl) (fun q=>hga _ q a k ha rfl)
 refine ⟨h',⟨H.clk,fun a k ha=>(H.blk a k ha).mono hle (hatk a k ha),H.inj,H.im,fun i hi=>Nat.lt_of_lt_of_le (H.imlt i hi) hF.size,?_,?_,?_,H.gl.mono hle⟩,
  ⟨hle,Nat.le_refl _,hF.size,fun i hi hn=>hF.block i hi (fun q=>hn (.inr ⟨_,q ▸ hl⟩)) (fun q=>hn (.inr (hown i q))),fun _ h=>.inl h,?_,fun _ k h _=>⟨k,h⟩,hF.os,hF.output,hF.tape,rfl⟩,?_,rfl,rfl,rfl,?_⟩
 ·intro i r hi
  rcases lp_ i r hi with ⟨rfl,rfl⟩|hn|⟨h1,h2,h3⟩
  ·exact LP.orec.2 b1
  ·exact (hn2r i r hn).1
  ·exact (H.lp i r h3).mono hle (hF.block i (RW.lt H (.inr ⟨r,h3⟩)) h1 h2)
 ·intro i r hi
  rcases lp_ i r hi with ⟨rfl,rfl⟩|hn|⟨h1,h2,h3⟩
  ·exact hli
  ·rcases (hn2r i r hn).2.2.1 with q|q
   ·exact hgi i q
   ·exact fun q2=>absurd (H.imlt i q2) (Nat.not_lt.2 q)
  ·exact H.lpim i r h3
 ·intro a k i r ha hi
  rcases lp_ i r hi with ⟨rfl,rfl⟩|hn|⟨h1,h2,h3⟩
  ·exact H.lpat a k _ _ ha hl
  ·rcases (hn2r i r hn).2.2.1 with q|q
   ·exact hga i q a k ha
   ·exact Nat.ne_of_lt (Nat.lt_of_lt_of_le (RW.lt H (.inl ⟨a,k,ha,rfl⟩)) q)
  ·exact H.lpat a k i r ha h3
 ·rintro i (⟨a,k,ha,rfl⟩|⟨r,hi⟩)
  ·exact .inr (.inl ⟨a,k,ha,rfl⟩)
  ·rcases lp_ i r hi with ⟨rfl,rfl⟩|hn|⟨h1,h2,h3⟩
   ·exact .inr (.inr ⟨_,hl⟩)
   ·rcases (hn2r i r hn).2.2.1 with q|q
    ·exact .inr (.inr (hown i q))
    ·exact .inl q
   ·exact .inr (.inr ⟨r,h3⟩)
 ·refine ⟨_,.inr rfl,by simp [h',bdPut],?_⟩
  rcases hv' with ⟨rfl,rfl,_⟩|⟨g,cap,cur,rfl,rfl,_,h4,h5,h6,h7,h8⟩
  ·exact .inl ⟨rfl,rfl⟩
  ·exact .inr ⟨g,cap,cur,rfl,by simp [h',bdPut,h4],h4,h5,h6,h7,h8⟩
 ·intro i h1 h2 h3
  simp only[h',bdPut,if_neg h1,if_neg h2,if_neg (show ¬ (n2.map (·.1))=some i from fun q=>h3 (hn2.symm.trans q))]
def Bd (T e:TypeId) (h0 h:AH) (l:Nat) (bs:List UInt8):Prop :=
 ∃ v,Bd1 T e h l v bs∧h0.lp l=none∧(∀ g,v.ownBlock=some g→h0.lp g=none)∧∀ i r,h0.lp i=some r→h.lp i=some r
theorem Bd.tick {T e:TypeId} {h0 h:AH} {l n:Nat} {bs:List UInt8}:Bd T e h0 (h.tick n) l bs ↔ Bd T e h0 h l bs:=Iff.rfl
theorem Bd.put {T e:TypeId} {h0 h:AH} {l:Nat} {b:Bid} {k:Option Blk} {bs:List UInt8}:Bd T e h0 (h.put b k) l bs ↔ Bd T e h0 h l bs:=Iff.rfl
theorem Bd.old {T e:TypeId} {h0 h:AH} {l:Nat} {bs:List UInt8} (hB:Bd T e h0 h l bs):∀ i r,h0.lp i=some r→h.lp i=some r:=hB.choose_spec.2.2.2
theorem Bd.new {T e:TypeId} {h:AH} {l:Nat} (hl:h.lp l=none):Bd T e h (h.lpSet l (some (orec #[.pointer none,.slice none 0 0] T))) l []:=by
 refine ⟨_,⟨_,.inl rfl,by simp [AH.lpSet],.inl ⟨rfl,rfl⟩⟩,hl,(fun g hg=>nomatch hg),fun i r hi=>?_⟩
 simp only[AH.lpSet]
 rw [upd_ne _ _ (fun q=>by rw [q,hl] at hi;cases hi)];exact hi
theorem ACalls.bdWrite {T e:TypeId} {f:FuncId} {args:List AV} {res:AV} {h0 h:AH} {l:Nat} {bs bs':List UInt8} (he:Enters P f) (hB:Bd T e h0 h l bs)
  (H:∀ (c:Cx) (xs:List Value) (p v:Value),VRs c args xs→(p=.pointer none ∨ p=.pointer (some ⟨l,0,none⟩))→BAt T e l p v (byteCells bs) c.w →
   Calls P f xs.toArray c.w fun e' w'=>∃ x v',e'=.returned x∧(∀ c',VR c' res x)∧BAt T e l (.pointer (some ⟨l,0,none⟩)) v' (byteCells bs') w'∧Fr l v c.w w'∧At c.w v v') :
  ACalls P f args h (fun r h'=>r=res∧Bd T e h0 h' l bs'∧h'.at_=h.at_∧h'.clk=h.clk∧h'.gl=h.gl):=by
 obtain ⟨v,hB1,hl0,hg0,hold⟩:=hB
 refine ⟨he,fun c xs HR hxs=>?_⟩
 obtain ⟨p,hp,hb⟩:=hB1.at_ HR
 refine (callsIn_wide.2 (H c xs p v hxs hp hb)).mono ?_
 rintro e' w' ⟨x,v',rfl,hx,hb',hF,hA⟩
 obtain ⟨h',H',E,hB',h1,h2,h3,h4⟩:=bd_go HR hB1 hb' hF hA
 have hg':∀ g,v'.ownBlock=some g→h0.lp g=none:=by
  intro g hg
  rcases hA with q|⟨g2,q,h5⟩
  ·exact hg0 g (q.symm.trans hg)
  ·rw [hg] at q
   cases q
   cases hx0:h0.lp g with
   | none=>rfl
   | some r=>exact absurd (RW.lt HR (.inr ⟨r,hold g r hx0⟩)) (Nat.not_lt.2 h5)
 refine ⟨res,x,_,h',rfl,rfl,hx _,H',E,fun b hb=>.inl hb,rfl,⟨v',hB',hl0,hg',fun i r hi=>?_⟩,h1,h2,h3⟩
 rw [h4 i (fun q=>by rw [q,hl0] at hi;cases hi) (fun q=>by rw [hg0 i q] at hi;cases hi) (fun q=>by rw [hg' i q] at hi;cases hi)]
 exact hold i r hi
theorem ACalls.bdDone {T e:TypeId} {f:FuncId} {args:List AV} {res:AV} {h0 h:AH} {l:Nat} {bs:List UInt8} (he:Enters P f) (hB:Bd T e h0 h l bs)
  (H:∀ (c:Cx) (xs:List Value) (p v:Value),VRs c args xs→BAt T e l p v (byteCells bs) c.w →
   Calls P f xs.toArray c.w fun e' w'=>∃ x,e'=.returned x∧(∀ c',VR c' res x)∧Fr l v c.w w') :
  ACalls P f args h (fun r h'=>r=res∧(∀ i r,h0.lp i=some r→h'.lp i=some r)∧h'.at_=h.at_∧h'.clk=h.clk∧h'.gl=h.gl):=by
 obtain ⟨v,hB1,hl0,hg0,hold⟩:=hB
 refine ⟨he,fun c xs HR hxs=>?_⟩
 obtain ⟨p,hp,hb⟩:=hB1.at_ HR
 refine (callsIn_wide.2 (H c xs p v hxs hb)).mono ?_
 rintro e' w' ⟨x,rfl,hx,hF⟩
 obtain ⟨_,_,hl,_⟩:=id hB1
 have hown:∀ g,v.ownBlock=some g→∃ r,h.lp g=some r:=fun g hg=>hB1.own hg
 let h':AH:={ h with lp:=fun i=>if i=l then none else if v.ownBlock=some i then none else h.lp i }
 have lp_:∀ i r,h'.lp i=some r→i ≠ l∧v.ownBlock ≠ some i∧h.lp i=some r:=by
  intro i r hi
  simp only[h'] at hi
  split at hi
  ·cases hi
  ·split at hi
   ·cases hi
   ·exact ⟨by assumption,by assumption,hi⟩
 have hle:c.Le { c with w:=w' }:=⟨fun _ h=>h,fun _ _=>rfl,fun _ h=>h,fun i hi=>hF.block i (HR.imlt i hi) (fun q=>HR.lpim l _ hl (q ▸ hi)) (fun q=>let ⟨r,hr⟩:=hown i q;HR.lpim i r hr hi)⟩
 have hatk:∀ a k,h.at_ a=some k→w'.heap[(c.fm a).blk]?=c.w.heap[(c.fm a).blk]?:=fun a k ha =>
  hF.block _ (RW.lt HR (.inl ⟨a,k,ha,rfl⟩)) (HR.lpat a k l _ ha hl) (fun q=>let ⟨r,hr⟩:=hown _ q;HR.lpat a k _ r ha hr rfl)
 refine ⟨res,x,{ c with w:=w' },h',rfl,rfl,hx _,⟨HR.clk,fun a k ha=>(HR.blk a k ha).mono hle (hatk a k ha),HR.inj,HR.im,fun i hi=>Nat.lt_of_lt_of_le (HR.imlt i hi) hF.size,fun i r hi=>?_,fun i r hi=>HR.lpim i r (lp_ i r hi).2.2,fun a k i r ha hi=>HR.lpat a k i r ha (lp_ i r hi).2.2,HR.gl.mono hle⟩,
  ⟨hle,Nat.le_refl _,hF.size,fun i hi hn=>hF.block i hi (fun q=>hn (.inr ⟨_,q ▸ hl⟩)) (fun q=>hn (.inr (hown i q))),fun _ h=>.inl h,?_,fun _ k h _=>⟨k,h⟩,hF.os,hF.output,hF.tape,rfl⟩,fun b hb=>.inl hb,rfl,fun i r hi=>?_,rfl,rfl,rfl⟩
 ·obtain ⟨h1,h2,h3⟩:=lp_ i r hi
  exact (HR.lp i r h3).mono hle (hF.block i (RW.lt HR (.inr ⟨r,h3⟩)) h1 h2)
 ·rintro i (⟨a,k,ha,rfl⟩|⟨r,hi⟩)
  ·exact .inr (.inl ⟨a,k,ha,rfl⟩)
  ·exact .inr (.inr ⟨r,(lp_ i r hi).2.2⟩)
 ·simp only[h']
  rw [if_neg (fun q=>by rw [q,hl0] at hi;cases hi),if_neg (fun q=>by rw [hg0 i q] at hi;cases hi)]
  exact hold i r hi
variable {tt:Nat→TI}
theorem ASem.bdNew {r:Option Nat} {n id d:Nat} {t:TypeId} {ty:TypeId} {ps:String} {ed:Array Edge} {Q:Exit→AS→Prop} {s:AS} (T:Tab P tt) (hd:d < n) (hr:arows tt s.ev (.alloc t)=some (2,[[.nilp,.nils]],t))
  (h:∀ l,s.h.lp l=none→Q .normal ⟨upd s.tmp d (.gptr l 0),s.box,s.mks,s.h.lpSet l (some (orec #[.pointer none,.slice none 0 0] t))⟩) :
  ASem P r n (.region id #[⟨some d,.alloc t,ty,ps,ed,none⟩] false) Q s:=by
 intro c0 h0 c lb a S
 have hE:∀ x,VL c lb (s.ev x) (a.eval x):=fun x=>S.fr.ev x
 obtain ⟨row,xs,hrow,_,_,hv,hrun⟩:=arows_sound T (o:=⟨some d,.alloc t,ty,ps,ed,none⟩) hE hr
 simp only[List.cons.injEq,and_true] at hrow
 subst hrow
 simp only[VRs,VR] at hv
 obtain ⟨x1,_,rfl,rfl,x2,_,rfl,rfl,rfl⟩:=hv
 have hl:s.h.lp c.w.heap.size=none:=by
  cases hx:s.h.lp c.w.heap.size with
  | none=>rfl
  | some x =>
   obtain ⟨o',ho'⟩:=(S.hr.lp _ x hx).obj
   exact absurd (Array.getElem?_eq_some_iff.1 ho').1 (Nat.lt_irrefl _)
 obtain ⟨H',E⟩:=S.hr.lpNew (.cells #[.pointer none,.slice none 0 0] t) (orec #[.pointer none,.slice none 0 0] t) (LP.orec.2 (heap_alloc_new c.w _))
 have S':=S.go H' E (fun _ h=>.inl h)
 refine wpIn_region ?_
 show wpOpsIn (FW r) 0 P _ _ [0] a c.w
 simp only[wpOpsIn]
 rw [show (#[⟨some d,.alloc t,ty,ps,ed,none⟩]:Array Oper)[0]?=some ⟨some d,.alloc t,ty,ps,ed,none⟩ from rfl]
 dsimp only
 rw [if_pos (show Region.wanted _ _=true from rfl)]
 refine wpIn_value (by simp) (hrun c.w) ?_
 exact ⟨_,lb,_,rfl,S'.put (dst:=some d) (v:=.gptr c.w.heap.size 0) (x:=.pointer (some ⟨c.w.heap.size,0,none⟩)) (by simp [VL,VR]) (fun d' h'=>by cases h';exact hd),h _ hl⟩
theorem asem_bdNew {r:Option Nat} {n id d:Nat} {t:TypeId} {ty:TypeId} {ps:String} {ed:Array Edge} {rest:Code} {Q:Exit→AS→Prop} {T:Nat→AV} {B:Bid→Option (List AV)} {M:List Nat} {H:AH} (T0:Tab P tt) (hd:d < n) (hr:arows tt (AS.ev ⟨T,B,M,H⟩) (.alloc t)=some (2,[[.nilp,.nils]],t))
  (h:∀ l,H.lp l=none→ASem P r n rest Q ⟨upd T d (.gptr l 0),B,M,H.lpSet l (some (orec #[.pointer none,.slice none 0 0] t))⟩) :
  ASem P r n (.seq (.region id #[⟨some d,.alloc t,ty,ps,ed,none⟩] false) rest) Q ⟨T,B,M,H⟩ :=
 ASem.seq (ASem.bdNew T0 hd hr fun l hl=>h l hl)
end Go.Av

namespace Go.Txt
open Go.Lib
def stepN (a:Nat) (b:UInt8):Nat:=10 * a+(b.toNat - 48)
def valN (a:Nat) (s:List UInt8):Nat:=s.foldl stepN a
attribute [local irreducible] valN
end Go.Txt

namespace Go.Av
open Go.Shelf Go.RowKit Go.Proofs Go.Lib Go.Txt
variable {P:Program} {ρ:Ren}
theorem PureG.wider {G G':Nat→Option (List AV)} {f:FuncId} {args:List AV} {R:AV→Prop} (hg:∀ i cs,G i=some cs→G' i=some cs) (H:PureG G P f args R):PureG G' P f args R:=by
 intro h hgl
 have H1:=H { h with gl:=G } rfl
 refine ⟨H1.1,fun c xs HR hv=>?_⟩
 have HR1:HRel c { h with gl:=G }:=⟨HR.clk,HR.blk,HR.inj,HR.im,HR.imlt,HR.lp,HR.lpim,HR.lpat,by have:=HR.gl;rw [hgl] at this;exact this.sub hg⟩
 refine (H1.2 c xs HR1 hv).mono ?_
 rintro e w' ⟨v,x,c',h',rfl,rfl,hx,HR',E,hdn,⟨n,hn,rfl⟩,q⟩
 refine ⟨v,x,c',h.tick n,rfl,rfl,hx,⟨HR'.clk,HR'.blk,HR'.inj,HR'.im,HR'.imlt,HR'.lp,HR'.lpim,HR'.lpat,HR.gl.mono E.le⟩,⟨E.le,E.clk,E.size,E.keep,E.imnew,E.rwnew,E.stay,E.os,E.out,E.tape,rfl⟩,hdn,⟨n,hn,rfl⟩,q⟩
def Cx.fresh (c:Cx) (w':World):Cx:={ c with w:=w',im:=fun i=>c.im i ∨ (c.w.heap.size≤i∧i < w'.heap.size) }
theorem PureG.ofWorld {G:Nat→Option (List AV)} {f:FuncId} {args:List AV} {R:AV→Prop} (he:Enters P f)
  (H:∀ (c:Cx) (xs:List Value),GL c G→VRs c args xs→Calls P f xs.toArray c.w fun e w'=>∃ x v,e=.returned x∧Below c.w.heap.size c.w w'∧R v∧VR (c.fresh w') v x):PureG G P f args R:=by
 intro h hgl
 refine ⟨he,fun c xs HR hv=>(callsIn_wide.2 (H c xs (by have:=HR.gl;rwa [hgl] at this) hv)).mono ?_⟩
 rintro e w' ⟨x,v,rfl,hB,hR,hx⟩
 have hk:∀ b,(RW c h b ∨ c.im b)→w'.heap[b]?=c.w.heap[b]?:=fun b hb=>hB.block b (hb.elim (RW.lt HR) (HR.imlt b))
 have hle:c.Le (c.fresh w'):=⟨fun _ h=>h,fun _ _=>rfl,fun _ h=>.inl h,fun b hb=>hk b (.inr hb)⟩
 refine ⟨v,x,c.fresh w',h,rfl,rfl,hx,⟨HR.clk,fun b k hb=>(HR.blk b k hb).mono hle (hk _ (.inl (.inl ⟨b,k,hb,rfl⟩))),HR.inj,?_,?_,fun l r hr=>(HR.lp l r hr).mono hle (hk l (.inl (.inr ⟨r,hr⟩))),?_,HR.lpat,HR.gl.mono hle⟩,
  ⟨hle,Nat.le_refl _,hB.size,fun b hb _=>hB.block b hb,fun b hb=>hb.imp id fun q=>.inl q.1,fun _ h=>.inr h,fun _ k h _=>⟨k,h⟩,hB.os,hB.output,hB.tape,rfl⟩,fun b hb=>.inl hb,⟨h.clk,Nat.le_refl _,rfl⟩,hR⟩
 ·rintro b k hb (q|q)
  ·exact HR.im b k hb q
  ·exact absurd (RW.lt HR (.inl ⟨b,k,hb,rfl⟩)) (Nat.not_lt.2 q.1)
 ·rintro b (q|q)
  ·exact Nat.lt_of_lt_of_le (HR.imlt b q) hB.size
  ·exact q.2
 ·rintro l r hr (q|q)
  ·exact HR.lpim l r hr q
  ·exact absurd (RW.lt HR (.inr ⟨r,hr⟩)) (Nat.not_lt.2 q.1)
theorem VRs_ints {c:Cx} {k:IntKind}:∀ {zs:List Int} {xs:List Value},VRs c (zs.map fun z=>AV.int k z) xs→xs=zs.map fun z=>Value.int k z
 | [],xs,h=>by simpa [VRs] using h
 | z :: zs,xs,h=>by
  simp only[List.map_cons,VRs,VR] at h
  obtain ⟨x,xs',rfl,rfl,h⟩:=h
  rw [VRs_ints h];rfl
def powAV:List AV:=pow10Tab.map fun z=>AV.int .u64 z
theorem tab_of {G : Nat → Option (List AV)} {c : Cx} {g : Nat} (hc : GL c G) (hg : G g = some powAV) (hn : P.globalNamed "internal/strconv.uint64pow10" = some g) : TabIs P c.w "internal/strconv.uint64pow10" .u64 pow10Tab := by
 obtain ⟨_,_,xs,_,hv,ty,fz,hb⟩:=hc g _ hg
 obtain rfl:=VRs_ints hv
 unfold TabIs World.var?
 rw [hn]
 simp only[Option.bind_some,hb]
theorem cItoa {G : Nat → Option (List AV)} {g : Nat} (L : LaysM.n171 P ρ) (he : Enters P (ρ.f 171)) (hg : G g = some powAV) (hn : P.globalNamed "internal/strconv.uint64pow10" = some g) (n : Int) (h0 : -9223372036854775808 ≤ n) (h1 : n ≤ 9223372036854775807) :
  PureG G P (ρ.f 171) [.int .i64 n] (fun v=>v=.str (itoa n)):=by
 refine PureG.ofWorld he fun c xs hG hv=>?_
 simp only[VRs,VR] at hv
 obtain ⟨x,_,rfl,rfl,rfl⟩:=hv
 refine (Any.strconv_Itoa L n h0 h1 c.w (tab_of hG hg hn)).mono ?_
 rintro e w' ⟨rfl,k,os,rfl⟩
 exact ⟨_,_,rfl,⟨rfl,rfl,rfl,by simp [Go.Sort.grow],fun b hb=>by simp only[Go.Sort.grow];exact Array.getElem?_append_left hb⟩,rfl,by simp [VR]⟩
theorem strCells_bytes (s:List UInt8):strCells ⟨s.toArray⟩=byteCells s:=by simp [strCells,byteCells]
def WStr (P:Program) (T e:TypeId) (f:FuncId):Prop:=∀ (b:Nat) (p v:Value) (bs:List Value) (s:ByteArray) (w:World),(p=.pointer none ∨ p=.pointer (some ⟨b,0,none⟩))→BAt T e b p v bs w→bs.length+s.size≤140737488355328 →
  Calls P f #[.pointer (some ⟨b,0,none⟩),.string s] w fun r w'=>r=.returned (.tuple #[.int .i64 s.size,.nilIface])∧∃ v',BAt T e b (.pointer (some ⟨b,0,none⟩)) v' (bs ++ strCells s) w'∧Fr b v w w'∧At w v v'
def WByte (P:Program) (T e:TypeId) (f:FuncId):Prop:=∀ (b:Nat) (p v:Value) (bs:List Value) (c:Int) (w:World),(p=.pointer none ∨ p=.pointer (some ⟨b,0,none⟩))→BAt T e b p v bs w→bs.length+1≤140737488355328 →
  Calls P f #[.pointer (some ⟨b,0,none⟩),.int .u8 c] w fun r w'=>r=.returned .nilIface∧∃ v',BAt T e b (.pointer (some ⟨b,0,none⟩)) v' (bs ++ [.int .u8 c]) w'∧Fr b v w w'∧At w v v'
theorem cWriteString {T e:TypeId} {f:FuncId} (W:WStr P T e f) (he:Enters P f) {h0 h:AH} {l:Nat} {bs s:List UInt8} (hB:Bd T e h0 h l bs) (hl:bs.length+s.length≤140737488355328) :
  ACalls P f [.gptr l 0,.str s] h (fun r h'=>r=.tup [.int .i64 s.length,.nilif]∧Bd T e h0 h' l (bs ++ s)∧h'.at_=h.at_∧h'.clk=h.clk∧h'.gl=h.gl):=by
 refine ACalls.bdWrite he hB fun c xs p v hv hp hb=>?_
 simp only[VRs,VR] at hv
 obtain ⟨x,_,rfl,rfl,x2,_,rfl,rfl,rfl⟩:=hv
 have hsz:(⟨s.toArray⟩:ByteArray).size=s.length:=by simp [ByteArray.size]
 refine (W l p v _ ⟨s.toArray⟩ c.w hp hb (by rw [Lib.byteCells_length,hsz];exact hl)).mono ?_
 rintro e w' ⟨rfl,v',h1,h2,h3⟩
 rw [strCells_bytes] at h1
 refine ⟨_,v',rfl,fun c'=>by simp [VR,VRs,hsz],?_,h2,h3⟩
 have e1:byteCells (bs ++ s)=byteCells bs ++ byteCells s:=by simp [byteCells]
 rw [e1];exact h1
theorem cWriteByte {T e:TypeId} {f:FuncId} (W:WByte P T e f) (he:Enters P f) {h0 h:AH} {l:Nat} {bs:List UInt8} (b:UInt8) (hB:Bd T e h0 h l bs) (hl:bs.length+1≤140737488355328) :
  ACalls P f [.gptr l 0,.int .u8 b.toNat] h (fun r h'=>r=.nilif∧Bd T e h0 h' l (bs ++ [b])∧h'.at_=h.at_∧h'.clk=h.clk∧h'.gl=h.gl):=by
 refine ACalls.bdWrite he hB fun c xs p v hv hp hb=>?_
 simp only[VRs,VR] at hv
 obtain ⟨x,_,rfl,rfl,x2,_,rfl,rfl,rfl⟩:=hv
 refine (W l p v _ b.toNat c.w hp hb (by rw [Lib.byteCells_length];exact hl)).mono ?_
 rintro e w' ⟨rfl,v',h1,h2,h3⟩
 refine ⟨_,v',rfl,fun c'=>by simp [VR],?_,h2,h3⟩
 have e1:byteCells (bs ++ [b])=byteCells bs ++ [.int .u8 b.toNat]:=by simp [byteCells]
 rw [e1];exact h1
theorem cString (L:Lays.n169 P ρ) (X:Builder.Extra P ρ) (he:Enters P (ρ.f 169)) {h0 h:AH} {l:Nat} {bs:List UInt8} (hB:Bd (ρ.t 72) (ρ.t 5) h0 h l bs) (hl:bs ≠ []) :
  ACalls P (ρ.f 169) [.gptr l 0] h (fun r h'=>r=.str bs∧(∀ i r,h0.lp i=some r→h'.lp i=some r)∧h'.at_=h.at_∧h'.clk=h.clk∧h'.gl=h.gl):=by
 refine ACalls.bdDone he hB fun c xs p v hv hb=>?_
 simp only[VRs,VR] at hv
 obtain ⟨x,_,rfl,rfl,rfl⟩:=hv
 refine (Wr_Done L X l p v bs c.w hb hl).mono ?_
 rintro e w' ⟨rfl,h2⟩
 exact ⟨_,rfl,fun c'=>by simp [VR],h2⟩
end Go.Av
