/- Our own logic over the model: abstract values, an abstract heap, and what a piece of code asks of them. Lean checks it. Conditions: none. -/
import Derived.Test.YtaijkalhkgjakaaGreatDoorBaseC
set_option linter.all false
set_option linter.unusedSimpArgs false
set_option linter.unusedVariables false
namespace Go.Av
open Go
variable {P:Program} {tt:Nat→TI} {fi:FI}
end Go.Av
namespace Go.Av
open Go
variable {P:Program} {tt:Nat→TI}
end Go.Av
namespace Go.Av
open Go
variable {P:Program}
theorem ACalls.frzIn {f:FuncId} {args args':List AV} {h:AH} {Q:AV→AH→Prop} {b:Bid} {k:Blk} (hb:h.at_ b=some k) (ha:args'=frzs b k args) (H:ACalls P f args' (h.put b none) Q):ACalls P f args h Q:=by
 subst ha
 refine ⟨H.1,fun c xs hh hv=>?_⟩
 obtain ⟨H2,E2⟩:=hh.freeze hb
 refine (H.2 (c.freeze b) xs H2 (VRs.frz hh hb _ _ hv)).mono ?_
 rintro e w' ⟨v,x,c',h',rfl,rfl,hx,H',E,hdn,q⟩
 exact ⟨v,x,c',h',rfl,rfl,hx,H',E2.trans E,hdn,q⟩
end Go.Av
namespace Go.Av
open Go
variable {P:Program}
def knot (g:Fn) (cap:List AV):Nat→AV
 | 0=>.undef
 | n+1=>.iptr [.fn g [] (cap ++ [knot g cap n])] 0
theorem VRs.unapp {c:Cx}:∀ {vs ws:List AV} {zs:List Value},VRs c (vs ++ ws) zs→∃ xs ys,zs=xs ++ ys∧VRs c vs xs∧VRs c ws ys
 | [],ws,zs,h=>⟨[],zs,rfl,VRs.nil,h⟩
 | v :: vs,ws,zs,h=>by
  simp only[List.cons_append,VRs] at h
  obtain ⟨x,xs,rfl,hx,h⟩:=h
  obtain ⟨us,ys,rfl,h1,h2⟩:=VRs.unapp h
  exact ⟨x :: us,ys,rfl,VRs.cons hx h1,h2⟩
theorem VR.knot {c:Cx} {h:AH} (H:HRel c h) {b:Bid} {g:Fn} {cap:List AV} (hb:h.at_ b=some ⟨1,[[.fn g [] (cap ++ [.ptr b 0 0])]]⟩):∀ (n:Nat) (x:Value),VR c (.ptr b 0 0) x→VR (c.freeze b) (Av.knot g cap n) x
 | 0,x,_=>by simp [Av.knot,VR]
 | n+1,x,hx=>by
  have hz:=VR.frz H hb (.ptr b 0 0) x hx
  simp only[Av.frz,List.length_cons,List.length_nil,Nat.zero_add,true_and,Nat.lt_one_iff,if_true,List.getD_cons_zero] at hz
  simp only[VR] at hz
  obtain ⟨b0,o,xs,hxe,him,hra,hcs,hvs⟩:=hz
  simp only[VRs] at hvs
  obtain ⟨y,ys,rfl,hy,rfl⟩:=hvs
  simp only[VR] at hy
  obtain ⟨us,ws,rfl,hu,hw⟩:=hy
  obtain ⟨w1,w2,rfl,h1,h2⟩:=hw.unapp
  simp only[VRs] at h2
  obtain ⟨p,ps,rfl,hp,rfl⟩:=h2
  have hp':VR c (.ptr b 0 0) p:=by
   simp only[VR] at hp ⊢
   exact hp
  have ih:=VR.knot H hb n p hp'
  show VR (c.freeze b) (.iptr [.fn g [] (cap ++ [Av.knot g cap n])] 0) x
  simp only[VR]
  refine ⟨b0,o,_,hxe,him,hra,by rfl,VRs.cons ?_ VRs.nil⟩
  simp only[VR]
  exact ⟨us,_,rfl,hu,h1.append (VRs.cons ih VRs.nil)⟩
theorem ASem.knot {r:Option Nat} {n:Nat} {code:Code} {Q:Exit→AS→Prop} {T:Nat→AV} {B:Bid→Option (List AV)} {M:List Nat} {H:AH} {b:Bid} {g:Fn} {cap:List AV} (d m:Nat) (hd:T d=.ptr b 0 0) (hb:H.at_ b=some ⟨1,[[.fn g [] (cap ++ [.ptr b 0 0])]]⟩)
  (h:ASem P r n code Q ⟨upd T d (Av.knot g cap m),B,M,H.put b none⟩):ASem P r n code Q ⟨T,B,M,H⟩:=by
 intro c0 h0 c lb a S
 obtain ⟨H2,E2⟩:=S.hr.freeze hb
 have S2:=S.go H2 E2 (fun _ h=>.inl h)
 refine h c0 h0 (c.freeze b) lb a ⟨S2.hr,⟨S2.fr.size,fun t=>?_,S2.fr.defers,S2.fr.marks,S2.fr.box,S2.fr.lbclk,S2.fr.lbinj,S2.fr.lbsize⟩,S2.evo,S2.new,S2.dn,S2.mnew⟩
 by_cases e:t=d
 ·subst e
  dsimp only
  rw [upd_same]
  have:=S.fr.tmps t
  dsimp only at this
  rw [hd] at this
  exact (VR.knot S.hr hb m _ (this.vr rfl)).vl lb
 ·dsimp only;rw [upd_ne _ _ e];exact S2.fr.tmps t
end Go.Av
namespace Go.Av
variable {P:Program} {tt:Nat→TI} {fi:FI}
end Go.Av
namespace Go.Av
variable {P:Program} {tt:Nat→TI} {fi:FI} {k0:Nat} {ops:Array Oper} {K:AS→Prop} {T:Nat→AV} {B:Bid→Option (List AV)} {M:List Nat} {H:AH}
def acopyz (z:Nat) (h:AH) (x y:AV):Option (Nat × AH):=match asrc h z y with
 | none=>none
 | some rows=>match x with
  | .slc b e 0 n=>match h.at_ b with
   | some k=>if e=z∧n=k.es.length∧n≤rows.length then some (n,h.put b (some ⟨k.esz,rows.take n⟩)) else none
   | none=>none
  | _=>none
@[go_sem] theorem acopyz_slc (z e n:Nat) (h:AH) (b:Bid) (y:AV):acopyz z h (.slc b e 0 n) y=(asrc h z y).bind fun rows=>(h.at_ b).bind fun k=>if e=z∧n=k.es.length∧n≤rows.length then some (n,h.put b (some ⟨k.esz,rows.take n⟩)) else none:=by
 unfold acopyz
 cases asrc h z y <;> (try rfl)
 simp only[Option.bind_some]
 cases h.at_ b <;> rfl
theorem asl_iptr {ti:TI} {n el:Nat} (hk:ti.k=.array n el) (cs:List AV) (j:Nat):asl ti 1 none none (.iptr cs j)=if j+n≤cs.length then some (.lstx 1 (((cs.drop j).take n).map fun x=>[x])) else none:=by
 simp only[asl,hk,true_and]
theorem st_run (T0:Tab P tt) (hm:P.follows .mixedOrders=true) {f2:FI} {r:Option Nat} {n:Nat} {code:Code} {Q:Exit→AS→Prop} {s:AS} (hr:f2.rnd=r) (hn:f2.n=n) (hk:codeOk f2 code=true) (h:awp P tt f2 code Q s):ASem P r n code Q s:=by
 subst hr hn;exact asem_awp T0 hm hk h
end Go.Av
namespace Go.Av
variable {P:Program} {tt:Nat→TI} {fi:FI}
theorem stepR_scope {b:Frame} {a:Act} {k:List Item} {cs:List Frame} {w:World} {c:Code}:step P (lone (b.atR a (.code (.scope c) :: k)) cs w)=.next (lone (b.atR a (.code c :: .inScope c :: k)) cs w) :=
 step_lone_go (by simp [stepG,stepG.exec,Frame.atR])
theorem stepR_inScope {b:Frame} {a:Act} {k:List Item} {cs:List Frame} {w:World} {c:Code}:step P (lone (b.atR a (.inScope c :: k)) cs w)=.next (lone (b.atR a k) cs w) :=
 step_lone_go (by simp [stepG,stepG.exec,Frame.atR])
theorem wpIn_scope_straight {F:Fence} {n:Nat} {Q:Exit→Act→World→Prop} {a:Act} {w:World} {c:Code} (h:c.wpIn F n P (Exit.noGoto Q) a w):(Code.scope c).wpIn F n P Q a w:=by
 intro b k cs hro hb hr
 have h0:(lone (b.atR a (.code (.scope c) :: k)) cs w).fenced P F:=fenced_calm hb hr rfl
 obtain ⟨e,a₁,w₁,hq,harr⟩:=h b (.inScope c :: k) cs hro hb hr
 cases e with
 | normal=>exact ⟨.normal,a₁,w₁,hq,.head h0 stepR_scope (StepsIn.trans harr (.one (fenced_calm hb hr rfl) stepR_inScope))⟩
 | exit id =>
  have hx:exitTo id (.inScope c :: k)=exitTo id k:=by simp [exitTo]
  exact ⟨.exit id,a₁,w₁,hq,fun k' hk=>.head h0 stepR_scope (harr.1 k' (by rw [hx];exact hk)),
   fun hr' hk=>let ⟨k₁,h1,h2⟩:=harr.2 hr' (by rw [hx];exact hk);⟨k₁,h1,.head h0 stepR_scope h2⟩⟩
 | goto l=>exact hq.elim
 | ret=>exact ⟨_,a₁,w₁,hq,.of_steps (.one h0 stepR_scope) harr⟩
 | panic ch=>exact ⟨_,a₁,w₁,hq,.of_steps (.one h0 stepR_scope) harr⟩
 | outgrown=>exact ⟨_,a₁,w₁,hq,.of_steps (.one h0 stepR_scope) harr⟩
def noGA (Q:Exit→AS→Prop):Exit→AS→Prop
 | .goto _,_=>False
 | e,s=>Q e s
theorem ASem.scope {r:Option Nat} {n:Nat} {c:Code} {Q:Exit→AS→Prop} {s:AS} (h:ASem P r n c (noGA Q) s):ASem P r n (.scope c) Q s:=by
 intro c0 h0 c lb a S
 refine wpIn_scope_straight (wpIn_mono (h c0 h0 c lb a S) ?_)
 rintro e a' w' ⟨c',lb',s',rfl,S',q⟩
 cases e with
 | goto l=>exact q.elim
 | _=>exact ⟨c',lb',s',rfl,S',q⟩
theorem st_scope (T:Tab P tt) (hm:P.follows .mixedOrders=true) {c:Code} {Q:Exit→AS→Prop} {s:AS} (hk:codeOk fi c=true) (h:awp P tt fi c (noGA Q) s):awp P tt fi (.scope c) Q s :=
 ASem.scope (awp_sound T hm c _ _ hk h)
theorem st_noR {Q:Exit→AS→Prop} {s:AS} (h:Q .ret s):noGA Q .ret s:=h
theorem st_label {l:Nat} {Q:Exit→AS→Prop} {s:AS} (h:Q .normal s):awp P tt fi (.label l) Q s:=h
theorem st_free {id:Nat} {ops:Array Oper} {draw:Bool} {Q:Exit→AS→Prop} {s:AS} (h:ASem P fi.rnd fi.n (.region id ops draw) Q s) (hf:fi.free id=true:=by rfl):awp P tt fi (.region id ops draw) Q s:=by
 unfold awp;rw [hf];exact h
theorem ASem.frzC {r:Option Nat} {n:Nat} {code:Code} {Q:Exit→AS→Prop} {T T':Nat→AV} {B B':Bid→Option (List AV)} {M:List Nat} {H:AH} {b:Bid} {k:Blk} (hb:H.at_ b=some k) (hT:∀ t,T' t=T t ∨ T' t=Go.Av.frz b k (T t))
  (hB:∀ id cs',B' id=some cs'→∃ cs,B id=some cs∧(cs'=cs ∨ cs'=frzs b k cs))
  (h:ASem P r n code Q ⟨T',B',M,H.put b none⟩):ASem P r n code Q ⟨T,B,M,H⟩:=by
 intro c0 h0 c lb a S
 obtain ⟨H2,E2⟩:=S.hr.freeze hb
 have S2:=S.go H2 E2 (fun _ h=>.inl h)
 refine h c0 h0 (c.freeze b) lb a ⟨S2.hr,⟨S2.fr.size,fun t=>?_,S2.fr.defers,S2.fr.marks,fun id cs' hcs=>?_,S2.fr.lbclk,S2.fr.lbinj,S2.fr.lbsize⟩,S2.evo,S2.new,S2.dn,S2.mnew⟩
 ·rcases hT t with e|e
  ·dsimp only;rw [e];exact S2.fr.tmps t
  ·dsimp only;rw [e];exact VL.frz S.hr hb (S.fr.tmps t)
 ·obtain ⟨cs,hcs0,e⟩:=hB id cs' hcs
  obtain ⟨b1,xs,ty,g1,g2,g3,g4,g5,g6⟩:=S2.fr.box id cs hcs0
  rcases e with rfl|rfl
  ·exact ⟨b1,xs,ty,g1,g2,g3,g4,g5,g6⟩
  ·obtain ⟨b2,xs2,ty2,k1,k2,k3,k4,k5,k6⟩:=S.fr.box id cs hcs0
   have eb:b1=b2:=Option.some.inj (g1.symm.trans k1)
   subst eb
   have ex:(some (Obj.cells (List.toArray xs) ty (0,0)))=some (Obj.cells (List.toArray xs2) ty2 (0,0)):=g2.symm.trans k2
   have ex2:xs=xs2:=by
    have:=Option.some.inj ex
    injection this with h1 h2 h3
    simpa using h1
   subst ex2
   exact ⟨b1,xs,ty,g1,g2,g3,g4,VRs.frz S.hr hb _ _ k5,by rw [frzs_all];exact k6⟩
theorem ASem.frzT {r:Option Nat} {n:Nat} {code:Code} {Q:Exit→AS→Prop} {T:Nat→AV} {B:Bid→Option (List AV)} {M:List Nat} {H:AH} {b:Bid} {z:Nat} {row:List AV} (d:Nat) (hb:H.at_ b=some ⟨z,[row]⟩) (hd:T d=.ptr b 0 0)
  (h:ASem P r n code Q ⟨upd T d (.iptr row 0),B,M,H.put b none⟩):ASem P r n code Q ⟨T,B,M,H⟩:=by
 refine ASem.frzC hb (T':=upd T d (.iptr row 0)) (B':=B) (fun t=>?_) (fun id cs' hh=>⟨cs',hh,.inl rfl⟩) h
 by_cases e:t=d
 ·subst e;right;rw [hd];simp [upd,Go.Av.frz]
 ·left;simp [upd,e]
theorem ASem.frzS {r:Option Nat} {n:Nat} {code:Code} {Q:Exit→AS→Prop} {T:Nat→AV} {B:Bid→Option (List AV)} {M:List Nat} {H:AH} {b:Bid} {k:Blk} {es:List (List AV)} (d e m:Nat) (hb:H.at_ b=some k) (hd:T d=.slc b e 0 m) (he:k.es=es) (hm:m=es.length)
  (h:ASem P r n code Q ⟨upd T d (.lst e es),B,M,H.put b none⟩):ASem P r n code Q ⟨T,B,M,H⟩:=by
 subst he
 refine ASem.frzC hb (T':=upd T d (.lst e k.es)) (B':=B) (fun t=>?_) (fun id cs' hh=>⟨cs',hh,.inl rfl⟩) h
 by_cases e:t=d
 ·subst e;right;rw [hd];subst hm;simp [upd,Go.Av.frz]
 ·left;simp [upd,e]
theorem ASem.leT {r:Option Nat} {n:Nat} {code:Code} {Q:Exit→AS→Prop} {T:Nat→AV} {B:Bid→Option (List AV)} {M:List Nat} {H:AH} (d:Nat) {v v':AV} (hd:T d=v) (hn:noL v=true) (hl:VLe v v')
  (h:ASem P r n code Q ⟨upd T d v',B,M,H⟩):ASem P r n code Q ⟨T,B,M,H⟩:=by
 intro c0 h0 c lb a S
 refine h c0 h0 c lb a ⟨S.hr,⟨S.fr.size,fun t=>?_,S.fr.defers,S.fr.marks,S.fr.box,S.fr.lbclk,S.fr.lbinj,S.fr.lbsize⟩,S.evo,S.new,S.dn,S.mnew⟩
 by_cases e:t=d
 ·subst e;dsimp only;rw [upd_same]
  have:=S.fr.tmps t
  dsimp only at this
  rw [hd] at this
  exact (hl _ _ (this.vr hn)).vl lb
 ·dsimp only;rw [upd_ne _ _ e];exact S.fr.tmps t
theorem ASem.cutK {r:Option Nat} {n:Nat} {code:Code} {Q:Exit→AS→Prop} {T:Nat→AV} {B:Bid→Option (List AV)} {M:List Nat} {H:AH} (d z:Nat) (l:List (List AV))
  (hd:(T d=.nils∧l=[]) ∨ ∃ b,T d=.slc b z 0 l.length∧H.at_ b=some ⟨z,l⟩)
  (h:∀ H',(∀ b,(∀ m,T d ≠ .slc b z 0 m)→H'.at_ b=H.at_ b)→H'.clk=H.clk→H'.lp=H.lp→ASem P r n code Q ⟨upd T d (.lst z l),B,M,H'⟩):ASem P r n code Q ⟨T,B,M,H⟩:=by
 rcases hd with ⟨h1,rfl⟩|⟨b,h1,h2⟩
 ·exact ASem.leT d h1 rfl (VLe.nils z) (h H (fun _ _=>rfl) rfl rfl)
 ·refine ASem.frzS d z l.length h2 h1 rfl rfl (h _ (fun b' hb'=>?_) rfl rfl)
  have:¬ b'=b:=fun e=>hb' l.length (by rw [e];exact h1)
  exact upd_ne _ _ this
end Go.Av
namespace Go.Av
variable {P:Program} {tt:Nat→TI} {fi:FI}
theorem ASem.leBx {r:Option Nat} {n:Nat} {code:Code} {Q:Exit→AS→Prop} {T:Nat→AV} {B B':Bid→Option (List AV)} {M:List Nat} {H:AH}
  (hB:∀ id cs',B' id=some cs'→∃ cs,B id=some cs∧VLes cs cs'∧(cs.all AV.cell=true→cs'.all AV.cell=true)) (h:ASem P r n code Q ⟨T,B',M,H⟩):ASem P r n code Q ⟨T,B,M,H⟩:=by
 intro c0 h0 c lb a S
 refine h c0 h0 c lb a ⟨S.hr,⟨S.fr.size,S.fr.tmps,S.fr.defers,S.fr.marks,fun id cs' hcs=>?_,S.fr.lbclk,S.fr.lbinj,S.fr.lbsize⟩,S.evo,S.new,S.dn,S.mnew⟩
 obtain ⟨cs,hcs0,e,ec⟩:=hB id cs' hcs
 obtain ⟨b1,xs,ty,g1,g2,g3,g4,g5,g6⟩:=S.fr.box id cs hcs0
 exact ⟨b1,xs,ty,g1,g2,g3,g4,e.rel g5,ec g6⟩
end Go.Av
namespace Go.Av
variable {P:Program} {tt:Nat→TI} {fi:FI}
end Go.Av
namespace Go.Av
variable {P:Program} {tt:Nat→TI} {gb:Bid}
end Go.Av
namespace Go.Av
variable {P:Program} {tt:Nat→TI} {fi:FI} {k0:Nat} {ops:Array Oper} {K:AS→Prop} {T:Nat→AV} {B:Bid→Option (List AV)} {M:List Nat} {H:AH}
def SlA (h0:Nat) (g:AH) (v:AV) (z:Nat) (l:List (List AV)):Prop:=(v=.nils∧l=[]) ∨ ∃ b1:Bid,v=.slc b1 z 0 l.length∧g.at_ b1=some ⟨z,l⟩∧h0≤b1.1∧b1.1 < g.clk
theorem SlA.nil (h0:Nat) (g:AH) (z:Nat):SlA h0 g .nils z []:=.inl ⟨rfl,rfl⟩
theorem SlA.to {h0:Nat} {g g':AH} {v:AV} {z:Nat} {l:List (List AV)} (hS:SlA h0 g v z l) (hk:∀ b1 m,v=.slc b1 z 0 m→h0≤b1.1→b1.1 < g.clk→g'.at_ b1=g.at_ b1) (hc:g.clk≤g'.clk):SlA h0 g' v z l:=by
 rcases hS with h'|⟨b1,h1,h2,h3,h4⟩
 ·exact .inl h'
 ·exact .inr ⟨b1,h1,by rw [hk b1 _ h1 h3 h4];exact h2,h3,by omega⟩
theorem SlA.noL {h0:Nat} {g:AH} {v:AV} {z:Nat} {l:List (List AV)} (hS:SlA h0 g v z l):noL v=true:=by
 rcases hS with ⟨rfl,_⟩|⟨b1,rfl,_⟩ <;> rfl
theorem SlA.cell {h0:Nat} {g:AH} {v:AV} {z:Nat} {l:List (List AV)} (hS:SlA h0 g v z l):v.cell=true:=by
 rcases hS with ⟨rfl,_⟩|⟨b1,rfl,_⟩ <;> rfl
theorem SlA.lt {h0:Nat} {g:AH} {v:AV} {z:Nat} {l:List (List AV)} (hS:SlA h0 g v z l) {b:Bid} {m:Nat} (e:v=.slc b z 0 m):h0≤b.1∧b.1 < g.clk∧g.at_ b=some ⟨z,l⟩∧m=l.length:=by
 rcases hS with ⟨rfl,_⟩|⟨b1,rfl,h2,h3,h4⟩
 ·cases e
 ·injection e with e1 e2 e3 e4;subst e1;exact ⟨h3,h4,h2,e4.symm⟩
structure AppA (h0 k0 d:Nat) (H:AH) (v:AV) (z n:Nat) (l:List (List AV)) (v':AV) (G:AH):Prop where
 sl:SlA h0 (G.tick n) v' z l
 lp:G.lp=H.lp
 keep:∀ b:Bid,(∀ m,v ≠ .slc b z 0 m)→b ≠ (k0,d)→G.at_ b=H.at_ b
 nol:noL v'=true
 new:v'=.nils ∨ v'=.slc (k0,d) z 0 l.length
 old:∀ b:Bid,b.1 < h0→G.at_ b=H.at_ b
theorem st_appS {d:Tmp} {x y:Operand} {u t:TypeId} {p:String} {a:Array Edge} {g:Option (Nat × Bool)} {v:AV} {z m n h0:Nat} {l rows:List (List AV)} {G0:AH}
  (ht:∀ h id x y,aapp tt h u id x y=aappz z m h id x y) (hx:AS.ev ⟨T,B,M,H⟩ x=v) (hy:asrc H z (AS.ev ⟨T,B,M,H⟩ y)=some rows) (hcl:H.clk=n) (hz:z ≠ 0)
  (hS:SlA h0 G0 v z l) (hg:∀ b1 m,v=.slc b1 z 0 m→H.at_ b1=G0.at_ b1) (hgc:G0.clk≤n) (hb:(l.length+rows.length) * m≤big∧l.length+rows.length≤big) (h0k:h0≤k0) (hk0:k0 < n)
  (hk:∀ v' G,AppA h0 k0 d H v z n (l ++ rows) v' G→K ⟨upd T d v',B,M,G.tick n⟩) :
  awp1 P tt fi k0 ⟨some d,.call ⟨.builtin .append,#[x,y],#[u,u]⟩,t,p,a,g⟩ ⟨T,B,M,H⟩ K:=by
 subst hcl
 rcases hS with ⟨rfl,rfl⟩|⟨b1,rfl,h2,h3,h4⟩
 ·simp only[List.length_nil,Nat.zero_add] at hb
  by_cases hr:rows.length=0
  ·refine st_append (v:=.nils) (H':=H) ?_ ?_
   ·rw [ht,hx];unfold aappz;rw [if_neg hz,hy];dsimp only;rw [if_pos hb,if_pos hr]
   ·have hr0:rows=[]:=List.length_eq_zero_iff.1 hr
    subst hr0
    exact hk .nils H ⟨.inl ⟨rfl,rfl⟩,rfl,fun _ _ _=>rfl,rfl,.inl rfl,fun _ _=>rfl⟩
  ·refine st_append (v:=.slc (k0,d) z 0 rows.length) (H':=H.put (k0,d) (some ⟨z,rows⟩)) ?_ ?_
   ·rw [ht,hx];unfold aappz;rw [if_neg hz,hy];dsimp only;rw [if_pos hb,if_neg hr]
   ·refine hk _ (H.put (k0,d) (some ⟨z,rows⟩)) ⟨.inr ⟨(k0,d),rfl,?_,h0k,hk0⟩,rfl,fun b h1 h2=>put_ne H _ h2,rfl,.inr rfl,fun b hb=>put_ne H _ (fun e=>by rw [e] at hb;dsimp only at hb;omega)⟩
    show (H.put (k0,d) (some ⟨z,rows⟩)).at_ (k0,d)=_
    rw [put_same];rfl
 ·have h2':H.at_ b1=some ⟨z,l⟩:=by rw [hg b1 _ rfl];exact h2
  refine st_append (v:=.slc (k0,d) z 0 (l.length+rows.length)) (H':=(H.put b1 none).put (k0,d) (some ⟨z,l.take l.length ++ rows⟩)) ?_ ?_
  ·rw [ht,hx];unfold aappz;rw [if_neg hz,hy];simp only[h2',if_true,Nat.le_refl,if_pos hb]
  ·rw [List.take_length,← List.length_append]
   have hne:∀ b:Bid,b ≠ b1→b ≠ (k0,d)→((H.put b1 none).put (k0,d) (some ⟨z,l ++ rows⟩)).at_ b=H.at_ b:=fun b e1 e2=>by rw [put_ne _ _ e2,put_ne _ _ e1]
   refine hk _ ((H.put b1 none).put (k0,d) (some ⟨z,l ++ rows⟩)) ⟨.inr ⟨(k0,d),rfl,?_,h0k,hk0⟩,rfl,fun b q1 q2=>hne b (fun e=>q1 l.length (by rw [e])) q2,rfl,.inr rfl,fun b q=>hne b (fun e=>by rw [e] at q;omega) (fun e=>by rw [e] at q;dsimp only at q;omega)⟩
   show ((H.put b1 none).put (k0,d) (some ⟨z,l ++ rows⟩)).at_ (k0,d)=_
   rw [put_same]
theorem frz_lst {b:Bid} {z:Nat} {l:List (List AV)}:frz b ⟨z,l⟩ (.slc b z 0 l.length)=.lst z l:=by
 simp only[frz]
 rw [if_pos ⟨trivial,by omega⟩,List.drop_zero,List.take_length]
end Go.Av
namespace Go.Av
variable {P:Program} {tt:Nat→TI} {fi:FI}
theorem frzs_fix {b:Bid} {k:Blk}:∀ (r:List AV),(∀ v ∈ r,frz b k v=v)→frzs b k r=r
 | [],_=>rfl
 | v :: r,h=>by
  simp only[frzs]
  rw [h v (by simp),frzs_fix r (fun x hx=>h x (by simp [hx]))]
theorem frzss_fix {b:Bid} {k:Blk}:∀ (l:List (List AV)),(∀ r ∈ l,∀ v ∈ r,frz b k v=v)→frzss b k l=l
 | [],_=>rfl
 | r :: l,h=>by
  simp only[frzss]
  rw [frzs_fix r (h r (by simp)),frzss_fix l (fun x hx=>h x (by simp [hx]))]
end Go.Av
namespace Go.Av
variable {P:Program} {tt:Nat→TI} {fi:FI}
theorem asem_seqK (T:Tab P tt) (hm:P.follows .mixedOrders=true) {a b:Code} {Q:Exit→AS→Prop} {s:AS} (K:AS→Prop) (hk:codeOk fi a=true) (h:awp P tt fi a (thenA K (fun _ _=>False)) s) (h2:∀ s',K s'→ASem P fi.rnd fi.n b Q s'):ASem P fi.rnd fi.n (.seq a b) Q s:=by
 refine ASem.seq ((asem_awp T hm hk h).mono fun e s'=>?_)
 cases e with
 | normal=>exact h2 s'
 | _=>exact False.elim
theorem asem_cutL {α:Type} (T0:Tab P tt) (hm:P.follows .mixedOrders=true) {a b:Code} {Q:Exit→AS→Prop} {T:Nat→AV} {B:Bid→Option (List AV)} {M:List Nat} {h:AH}
  (L:α→List (Nat × AV)) (LB:α→List (Bid × List AV)) (H:α→AH) (inv:α→Prop) (hk:codeOk fi a=true)
  (h1:awp P tt fi a (thenA (fun s=>∃ a',inv a'∧keepOk s.tmp (L a')∧keepBOk s.box (LB a')∧s.mks=M∧HOld (H a') s.h) (fun _ _=>False)) ⟨T,B,M,h⟩)
  (h2:∀ a n,inv a→(H a).clk≤n→ASem P fi.rnd fi.n b Q ⟨keep (L a),keepB (LB a),M,(H a).tick n⟩):ASem P fi.rnd fi.n (.seq a b) Q ⟨T,B,M,h⟩:=by
 refine asem_seqK T0 hm _ hk h1 ?_
 rintro ⟨T',B',M',h'⟩ ⟨a',i',k1,k2,rfl,k3⟩
 exact ASem.sub (Sub.of k1 k2 k3.sub) (h2 a' h'.clk i' k3.clk)
end Go.Av
namespace Go.Av
variable {P:Program} {tt:Nat→TI} {fi:FI} {k0:Nat} {K:AS→Prop} {T:Nat→AV} {B:Bid→Option (List AV)} {M:List Nat} {H:AH}
theorem dcT {p:Prop} [Decidable p]:(decide p=true)=p:=decide_eq_true_eq
theorem dcF {p:Prop} [Decidable p]:(decide p=false)=¬p:=propext decide_eq_false_iff_not
theorem bnT {b:Bool}:((!b)=true)=(b=false):=Bool.not_eq_true' b
theorem bnF {b:Bool}:((!b)=false)=(b=true):=Bool.not_eq_false' b
theorem st_appN {d:Tmp} {x y:Operand} {u t:TypeId} {p:String} {a:Array Edge} {g:Option (Nat × Bool)} {b:Bid} {n z m el:Nat} {k:Blk} {rows:List (List AV)} (hx:AS.ev ⟨T,B,M,H⟩ x=.slc b z 0 n) (hk:(tt u).k=.slice el) (hz:(tt el).size=z) (hz0:¬ z=0) (hm:(tt el).bytes=m)
  (hy:asrc H z (AS.ev ⟨T,B,M,H⟩ y)=some rows) (hb:H.at_ b=some k) (hn:n≤k.es.length) (hbig:(n+rows.length) * m≤big∧n+rows.length≤big)
  (h1:K ⟨upd T d (.slc b z 0 (n+rows.length)),B,M,H.put b (some ⟨z,k.es.take n ++ rows⟩)⟩) (h2:K ⟨upd T d (.slc (k0,d) z 0 (n+rows.length)),B,M,H.put (k0,d) (some ⟨z,k.es.take n ++ rows⟩)⟩) :
  awp1 P tt fi k0 ⟨some d,.call ⟨.builtin .append,#[x,y],#[u,u]⟩,t,p,a,g⟩ ⟨T,B,M,H⟩ K:=by
 subst hz hm
 unfold awp1;dsimp only
 unfold awpCall
 simp only[if_true]
 exact .inr (.inl ⟨b,0,n,k,el,rows,hx,hk,hz0,hy,hb,by omega,hbig,by rw [Nat.zero_add];exact h1,by rw [List.drop_zero];exact h2⟩)
@[go_sem] theorem lpSet_lpSet (h:AH) (l:Nat) (r r':Option LRec):(h.lpSet l r).lpSet l r'=h.lpSet l r':=by
 simp only[AH.lpSet,upd_upd]
@[go_sem] theorem noL_nilm:noL .nilm=true:=rfl
@[go_sem] theorem cell_nilm:AV.cell .nilm=true:=rfl
@[go_sem] theorem cells_nilm:AV.cells .nilm=[.nilm]:=rfl
@[go_sem] theorem ofVal_nilm:ofVal (.map none)=.nilm:=rfl
@[go_sem] theorem noL_mp (l:Nat):noL (.mp l)=true:=rfl
@[go_sem] theorem cell_mp (l:Nat):AV.cell (.mp l)=true:=rfl
@[go_sem] theorem cells_mp (l:Nat):AV.cells (.mp l)=[.mp l]:=rfl
end Go.Av
namespace Go.Av
variable {P:Program} {tt:Nat→TI}
end Go.Av
namespace Go.Av
variable {P:Program} {tt:Nat→TI} {fi:FI} {k0:Nat} {K:AS→Prop} {T:Nat→AV} {B:Bid→Option (List AV)} {M:List Nat} {H:AH}
theorem AYields.le {l:Nat} {args args':List AV} {h:AH} {Q:AV→AH→Prop} (hl:VLes args args') (H:AYields P l args' h Q):AYields P l args h Q :=
 fun c xs hh hv=>H c xs hh (hl.rel hv)
theorem AYields.frzIn {l:Nat} {args args':List AV} {h:AH} {Q:AV→AH→Prop} {b:Bid} {k:Blk} (hb:h.at_ b=some k) (ha:args'=frzs b k args) (H:AYields P l args' (h.put b none) Q):AYields P l args h Q:=by
 subst ha
 intro c xs hh hv
 obtain ⟨H2,E2⟩:=hh.freeze hb
 obtain ⟨fn,tmps,assign,body,h1,h2⟩:=H (c.freeze b) xs H2 (VRs.frz hh hb _ _ hv)
 refine ⟨fn,tmps,assign,body,h1,h2.mono ?_⟩
 rintro e w' ⟨v,x,c',h',rfl,rfl,hx,H',E,hdn,q⟩
 exact ⟨v,x,c',h',rfl,rfl,hx,H',E2.trans E,hdn,q⟩
theorem AYields.mono {l:Nat} {args:List AV} {h:AH} {Q Q':AV→AH→Prop} (H:AYields P l args h Q) (hq:∀ v h',Q v h'→Q' v h'):AYields P l args h Q':=by
 intro c xs hh hv
 obtain ⟨fn,tmps,assign,body,h1,h2⟩:=H c xs hh hv
 exact ⟨fn,tmps,assign,body,h1,h2.mono (Ends.mono hq)⟩
def SlW (c0:Nat) (g:AH) (v:AV) (l:List (List AV)):Prop:=(v=.nils∧l=[]) ∨ ∃ (b:Bid) (es:List (List AV)),v=.slc b 1 0 l.length∧g.at_ b=some ⟨1,es⟩∧l.length≤es.length∧es.take l.length=l∧c0≤b.1∧b.1 < g.clk
theorem SlW.noL {c0:Nat} {g:AH} {v:AV} {l:List (List AV)} (h:SlW c0 g v l):noL v=true:=by
 rcases h with ⟨rfl,_⟩|⟨b,es,rfl,_⟩ <;> rfl
structure KeepW (c0:Nat) (g:AH) (v:AV) (l:List (List AV)) (h':AH):Prop where
 own:∀ b m,v=.slc b 1 0 m→∃ es',h'.at_ b=some ⟨1,es'⟩∧l.length≤es'.length∧es'.take l.length=l
 oth:∀ b:Bid,c0≤b.1→b.1 < g.clk→(∀ m,v ≠ .slc b 1 0 m)→h'.at_ b=g.at_ b
 clk:g.clk≤h'.clk
theorem SlW.keepW {c0:Nat} {g h':AH} {v:AV} {l:List (List AV)} (h:SlW c0 g v l) (k:KeepW c0 g v l h'):SlW c0 h' v l:=by
 rcases h with h|⟨b,es,e,h2,h3,h4,h5,h6⟩
 ·exact .inl h
 ·obtain ⟨es',q1,q2,q3⟩:=k.own b _ e
  exact .inr ⟨b,es',e,q1,q2,q3,h5,Nat.lt_of_lt_of_le h6 k.clk⟩
theorem SlW.same {c0:Nat} {g h':AH} {v:AV} {l:List (List AV)} (h:SlW c0 g v l) (k:∀ b:Bid,c0≤b.1→b.1 < g.clk→h'.at_ b=g.at_ b) (hc:g.clk≤h'.clk):SlW c0 h' v l:=by
 rcases h with h|⟨b,es,e,h2,h3,h4,h5,h6⟩
 ·exact .inl h
 ·exact .inr ⟨b,es,e,by rw [k b h5 h6];exact h2,h3,h4,h5,Nat.lt_of_lt_of_le h6 hc⟩
theorem KeepW.refl {c0:Nat} {g:AH} {v:AV} {l:List (List AV)} (h:SlW c0 g v l):KeepW c0 g v l g:=by
 refine ⟨fun b m e=>?_,fun _ _ _ _=>rfl,Nat.le_refl _⟩
 rcases h with ⟨e1,_⟩|⟨b1,es,e1,h2,h3,h4,_⟩
 ·rw [e1] at e;cases e
 ·rw [e1] at e;injection e with e2;rw [← e2];exact ⟨es,h2,h3,h4⟩
theorem KeepW.of {c0:Nat} {g h':AH} {v:AV} {l:List (List AV)} (h:SlW c0 g v l) (k:∀ b:Bid,c0≤b.1→b.1 < g.clk→h'.at_ b=g.at_ b) (hc:g.clk≤h'.clk):KeepW c0 g v l h':=by
 refine ⟨fun b m e=>?_,fun b h1 h2 _=>k b h1 h2,hc⟩
 rcases h with ⟨e1,_⟩|⟨b1,es,e1,h2,h3,h4,h5,h6⟩
 ·rw [e1] at e;cases e
 ·rw [e1] at e;injection e with e2;rw [← e2,k b1 h5 h6];exact ⟨es,h2,h3,h4⟩
theorem KeepW.trans {c0:Nat} {g g1 g2:AH} {v:AV} {l:List (List AV)} (h:KeepW c0 g v l g1) (k:KeepW c0 g1 v l g2):KeepW c0 g v l g2 :=
 ⟨k.own,fun b h1 h2 h3=>(k.oth b h1 (Nat.lt_of_lt_of_le h2 h.clk) h3).trans (h.oth b h1 h2 h3),Nat.le_trans h.clk k.clk⟩
structure AppW (c0 k0 d:Nat) (H:AH) (v:AV) (n:Nat) (l:List (List AV)) (r:List AV) (v':AV) (G:AH):Prop where
 sl:SlW c0 (G.tick n) v' (l ++ [r])
 lp:G.lp=H.lp
 keep:∀ b:Bid,(∀ m,v ≠ .slc b 1 0 m)→b ≠ (k0,d)→G.at_ b=H.at_ b
 own:∀ b m,v=.slc b 1 0 m→∃ es',G.at_ b=some ⟨1,es'⟩∧l.length≤es'.length∧es'.take l.length=l
 new:∀ b m,v'=.slc b 1 0 m→b=(k0,d) ∨ ∃ m,v=.slc b 1 0 m
 ext:∃ b,(k0≤b.1 ∨ ∃ m,v=.slc b 1 0 m)∧(∃ k,G=H.put b (some k))
theorem st_appW {d:Tmp} {x y:Operand} {u t:TypeId} {p:String} {a:Array Edge} {g:Option (Nat × Bool)} {v:AV} {m n c0 el:Nat} {l:List (List AV)} {r:List AV}
  (ht:∀ h id x y,aapp tt h u id x y=aappz 1 m h id x y) (hk':(tt u).k=.slice el) (hz:(tt el).size=1) (hm':(tt el).bytes=m) (hx:AS.ev ⟨T,B,M,H⟩ x=v) (hy:asrc H 1 (AS.ev ⟨T,B,M,H⟩ y)=some [r]) (hcl:H.clk=n)
  (hS:SlW c0 H v l) (hb:(l.length+1) * m≤big∧l.length+1≤big) (h0k:c0≤k0) (hk0:k0 < n)
  (hk:∀ v' G,AppW c0 k0 d H v n l r v' G→K ⟨upd T d v',B,M,G.tick n⟩) :
  awp1 P tt fi k0 ⟨some d,.call ⟨.builtin .append,#[x,y],#[u,u]⟩,t,p,a,g⟩ ⟨T,B,M,H⟩ K:=by
 subst hcl
 rcases hS with ⟨rfl,rfl⟩|⟨b1,es,rfl,h2,h3,h4,h5,h6⟩
 ·refine st_append (v:=.slc (k0,d) 1 0 1) (H':=H.put (k0,d) (some ⟨1,[r]⟩)) ?_ ?_
  ·rw [ht,hx];unfold aappz;rw [if_neg (by decide),hy];dsimp only;simp only[List.length_nil,Nat.zero_add] at hb;simp only[List.length_cons,List.length_nil,Nat.zero_add];rw [if_pos hb,if_neg (by decide)]
  ·have hs:((H.put (k0,d) (some ⟨1,[r]⟩)).tick H.clk).at_ (k0,d)=some ⟨1,[r]⟩:=put_same H (k0,d) _
   exact hk _ (H.put (k0,d) (some ⟨1,[r]⟩)) {
    sl:=.inr ⟨(k0,d),[r],rfl,hs,by simp,by simp,h0k,hk0⟩
    lp:=rfl
    keep:=fun b _ h2=>put_ne H _ h2
    own:=fun b m e=>by cases e
    new:=fun b m e=>.inl (by injection e with e1;exact e1.symm)
    ext:=⟨(k0,d),.inl (Nat.le_refl _),_,rfl⟩ }
 ·have hl1:(l ++ [r]).length=l.length+1:=by simp
  have q1:(l ++ [r]).length≤(es.take l.length ++ [r]).length:=by rw [h4];exact Nat.le_refl _
  have q2:(es.take l.length ++ [r]).take (l ++ [r]).length=l ++ [r]:=by rw [h4,List.take_of_length_le (Nat.le_refl _)]
  have q3:l.length≤(es.take l.length ++ [r]).length:=by rw [h4,hl1];omega
  have q4:(es.take l.length ++ [r]).take l.length=l:=by rw [h4];simp
  refine st_appN (b:=b1) (n:=l.length) (z:=1) (m:=m) (el:=el) (k:=⟨1,es⟩) (rows:=[r]) hx hk' hz (by decide) hm' hy h2 h3 hb ?_ ?_
  ·have hs:((H.put b1 (some ⟨1,es.take l.length ++ [r]⟩)).tick H.clk).at_ b1=some ⟨1,es.take l.length ++ [r]⟩:=put_same H b1 _
   exact hk (.slc b1 1 0 (l.length+1)) (H.put b1 (some ⟨1,es.take l.length ++ [r]⟩)) {
    sl:=.inr ⟨b1,_,by rw [hl1],hs,q1,q2,h5,h6⟩
    lp:=rfl
    keep:=fun b h7 _=>put_ne H _ (fun e=>h7 l.length (by rw [e]))
    own:=fun b m' e=>by
     injection e with e1
     subst e1
     exact ⟨_,hs,q3,q4⟩
    new:=fun b m' e=>.inr ⟨l.length,by injection e with e1;rw [e1]⟩
    ext:=⟨b1,.inr ⟨l.length,rfl⟩,_,rfl⟩ }
  ·have hs:((H.put (k0,d) (some ⟨1,es.take l.length ++ [r]⟩)).tick H.clk).at_ (k0,d)=some ⟨1,es.take l.length ++ [r]⟩:=put_same H (k0,d) _
   exact hk (.slc (k0,d) 1 0 (l.length+1)) (H.put (k0,d) (some ⟨1,es.take l.length ++ [r]⟩)) {
    sl:=.inr ⟨(k0,d),_,by rw [hl1],hs,q1,q2,h0k,hk0⟩
    lp:=rfl
    keep:=fun b _ h7=>put_ne H _ h7
    own:=fun b m' e=>by
     injection e with e1
     subst e1
     by_cases e2:b1=(k0,d)
     ·rw [e2];exact ⟨_,hs,q3,q4⟩
     ·exact ⟨es,by rw [put_ne H _ e2];exact h2,h3,h4⟩
    new:=fun b m' e=>.inl (by injection e with e1;exact e1.symm)
    ext:=⟨(k0,d),.inl (Nat.le_refl _),_,rfl⟩ }
theorem AppW.keep2 {c0 d n:Nat} {g h2:AH} {v v':AV} {l:List (List AV)} {r:List AV} {G:AH} (hA:AppW c0 k0 d H v n l r v' G) (hg:∀ b,H.at_ b=g.at_ b) (hgk:g.clk≤k0) (hk0:k0 < n) (hS:SlW c0 g v l) (k:KeepW c0 (G.tick n) v' (l ++ [r]) h2):KeepW c0 g v l h2:=by
 have hc:n≤h2.clk:=k.clk
 refine ⟨fun b m e=>?_,fun b h1 h2' h3=>?_,by omega⟩
 ·have hb:b.1 < g.clk:=by
   rcases hS with ⟨e1,_⟩|⟨b1,es,e1,_,_,_,_,q⟩
   ·rw [e1] at e;cases e
   ·rw [e1] at e;injection e with e2;rw [← e2];exact q
  have hb0:c0≤b.1:=by
   rcases hS with ⟨e1,_⟩|⟨b1,es,e1,_,_,_,q,_⟩
   ·rw [e1] at e;cases e
   ·rw [e1] at e;injection e with e2;rw [← e2];exact q
  by_cases hv:∃ m',v'=.slc b 1 0 m'
  ·obtain ⟨m',e'⟩:=hv
   obtain ⟨es',q1,q2,q3⟩:=k.own b m' e'
   refine ⟨es',q1,by simp at q2;omega,?_⟩
   have q4:(es'.take (l ++ [r]).length).take l.length=l:=by rw [q3];simp
   rw [List.take_take] at q4
   rw [Nat.min_eq_left (by simp)] at q4
   exact q4
  ·obtain ⟨es',q1,q2,q3⟩:=hA.own b m e
   refine ⟨es',?_,q2,q3⟩
   rw [k.oth b hb0 (by show b.1 < n;omega) (fun m' e'=>hv ⟨m',e'⟩)]
   exact q1
 ·rw [k.oth b h1 (by show b.1 < n;omega) (fun m' e'=>by
   rcases hA.new b m' e' with q|⟨m2,q⟩
   ·rw [q] at h2';dsimp only at h2';omega
   ·exact h3 m2 q)]
  show G.at_ b=_
  rw [hA.keep b h3 (fun q=>by rw [q] at h2';dsimp only at h2';omega)]
  exact hg b
def CpyA (k0 d:Nat) (H:AH) (rows:List (List AV)) (v':AV) (H':AH):Prop:=(v'=.nils∧rows=[]∧H'=H) ∨ (v'=.slc (k0,d) 1 0 rows.length∧H'=H.put (k0,d) (some ⟨1,rows⟩))
theorem CpyA.noL {k0 d:Nat} {H H':AH} {rows:List (List AV)} {v':AV} (hC:CpyA k0 d H rows v' H'):noL v'=true:=by
 rcases hC with ⟨rfl,_⟩|⟨rfl,_⟩ <;> rfl
theorem CpyA.clk {k0 d:Nat} {H H':AH} {rows:List (List AV)} {v':AV} (hC:CpyA k0 d H rows v' H'):H'.clk=H.clk:=by
 rcases hC with ⟨_,_,rfl⟩|⟨_,rfl⟩ <;> rfl
theorem SlW.len {c0:Nat} {g:AH} {v:AV} {l:List (List AV)} (h:SlW c0 g v l) {ti:TI} {el:Nat} (hk:ti.k=.slice el):alen ti v=some (l.length:Int):=by
 rcases h with ⟨rfl,rfl⟩|⟨b,es,rfl,_⟩ <;> simp [alen,hk]
end Go.Av
namespace Go.Av
variable {P:Program}
theorem ACalls.forgetM {f:FuncId} {args:List AV} {h:AH} {Q:AV→Prop} (H:ACalls P f args h (fun v h'=>(∀ b,b.1 < h.clk→h'.at_ b=h.at_ b)∧(∀ l r,h.lp l=some r→h'.lp l=some r)∧Q v)):ACalls P f args h (fun v h'=>Later h h'∧Q v) :=
 H.sub fun v h' hb hk hg ⟨h1,h2,q⟩=>⟨h.tick h'.clk,fun b k hbk=>by
  have hbk':h.at_ b=some k:=hbk
  rw [h1 b (hb b k hbk')];exact hbk',fun l r hr=>h2 l r hr,Nat.le_refl _,hg.symm,⟨_,hk,rfl⟩,q⟩
end Go.Av
namespace Go.Av
variable {P:Program}
def Still (x:AV):Prop:=∀ b k,frz b k x=x
theorem Still.int (q:IntKind) (n:Int):Still (.int q n):=fun _ _=>rfl
theorem Still.nils:Still .nils:=fun _ _=>rfl
theorem Still.lst {e:Nat} {es:List (List AV)} (h:∀ r ∈ es,∀ x ∈ r,Still x):Still (.lst e es):=fun b k=>by
 simp only[frz]
 rw [frzss_fix es fun r hr x hx=>h r hr x hx b k]
theorem VLes.pre:∀ {pre post:List AV} {v v':AV},VLe v v'→VLes (pre ++ v :: post) (pre ++ v' :: post)
 | [],post,v,v',h=>by simp only[List.nil_append,VLes];exact ⟨_,_,rfl,h,VLes.refl _⟩
 | a :: pre,post,v,v',h=>by simp only[List.cons_append,VLes];exact ⟨_,_,rfl,VLe.refl _,VLes.pre h⟩
end Go.Av
namespace Go.Av
variable {P:Program} {tt:Nat→TI}
theorem put_some_cases {h:AH} {id b:Bid} {k k':Blk} (hb:(h.put id (some k)).at_ b=some k'):(b=id∧k'=k) ∨ (b ≠ id∧h.at_ b=some k'):=by
 simp only[AH.put,upd_apply] at hb
 split at hb
 ·rename_i e;exact .inl ⟨e,by cases hb;rfl⟩
 ·rename_i e;exact .inr ⟨e,hb⟩
theorem RW.put {c:Cx} {h:AH} {id:Bid} {k:Blk} (h0:h.at_ id=none) {b:Nat} (hb:RW c h b):RW c (h.put id (some k)) b:=by
 rcases hb with ⟨a,k1,h1,h2⟩|⟨r,hr⟩
 ·refine .inl ⟨a,k1,?_,h2⟩
  rw [put_ne _ _ (fun e=>by rw [e,h0] at h1;cases h1)];exact h1
 ·exact .inr ⟨r,hr⟩
theorem Ends.frame {c:Cx} {h:AH} {Q:AV→AH→Prop} {id:Bid} {k:Blk} (h0:h.at_ id=none) (H:HRel c (h.put id (some k))) {e:Ending} {w':World} (E:Ends c h Q e w') :
  Ends c (h.put id (some k)) (fun v h'=>∃ h1,h1.at_ id=none∧h'=h1.put id (some k)∧Q v h1) e w':=by
 obtain ⟨v,x,c',h',rfl,rfl,hx,H',E,hdn,q⟩:=E
 have hid:(h.put id (some k)).at_ id=some k:=put_same _ _ _
 have hB:=H.blk id k hid
 have hsz:(c.fm id).blk < c.w.heap.size:=RW.lt H (.inl ⟨id,k,hid,rfl⟩)
 have hnew:h'.at_ id=none:=by
  cases q1:h'.at_ id with
  | none=>rfl
  | some k1=>obtain ⟨k2,q2⟩:=E.stay id k1 q1 hB.1;rw [h0] at q2;cases q2
 have hnRW:¬ RW c h (c.fm id).blk:=by
  rintro (⟨a,k1,h1,h2⟩|⟨r,hr⟩)
  ·have hne:a ≠ id:=fun e=>by rw [e,h0] at h1;cases h1
   exact hne (H.inj a id k1 k (by rw [put_ne _ _ hne];exact h1) hid h2)
  ·exact H.lpat id k _ r hid hr rfl
 have hkeep:=E.keep _ hsz hnRW
 have hfm:=E.le.fm id hB.1
 have hnRW':¬ RW c' h' (c.fm id).blk:=fun hr=>by
  rcases E.rwnew _ hr with q1|q1
  ·omega
  ·exact hnRW q1
 have hnim:¬ c'.im (c.fm id).blk:=fun hi=>by
  rcases E.imnew _ hi with q1|q1|q1
  ·exact H.im id k hid q1
  ·omega
  ·exact hnRW q1
 have hB':BRel c' id k:=hB.mono E.le hkeep
 refine ⟨v,x,c',h'.put id (some k),rfl,rfl,hx,⟨H'.clk,?_,?_,?_,H'.imlt,H'.lp,H'.lpim,fun a k1 l r ha hr=>(put_some_cases ha).elim (fun e=>by rw [e.1,hfm];exact fun e2=>hnRW' (.inr ⟨r,e2 ▸ hr⟩)) (fun e=>H'.lpat a k1 l r e.2 hr),H'.gl⟩,⟨E.le,E.clk,E.size,fun b hb hr=>E.keep b hb (fun q1=>hr (q1.put h0)),fun b hb=>?_,fun b hb=>?_,fun b k1 hb hd=>?_,E.os,E.out,E.tape,E.gl⟩,hdn,h',hnew,rfl,q⟩
 ·intro b k1 hb
  rcases put_some_cases hb with ⟨rfl,rfl⟩|⟨_,hb⟩
  ·exact hB'
  ·exact H'.blk b k1 hb
 ·intro b b' k1 k2 h1 h2 he
  rcases put_some_cases h1 with ⟨e1,_⟩|⟨hne,g1⟩ <;> rcases put_some_cases h2 with ⟨e2,_⟩|⟨hne',g2⟩
  ·rw [e1,e2]
  ·rw [e1,hfm] at he
   exact absurd (.inl ⟨b',k2,g2,he.symm⟩) hnRW'
  ·rw [e2,hfm] at he
   exact absurd (.inl ⟨b,k1,g1,he⟩) hnRW'
  ·exact H'.inj b b' k1 k2 g1 g2 he
 ·intro b k1 hb
  rcases put_some_cases hb with ⟨rfl,rfl⟩|⟨_,hb⟩
  ·rw [hfm];exact hnim
  ·exact H'.im b k1 hb
 ·rcases E.imnew b hb with q1|q1|q1
  ·exact .inl q1
  ·exact .inr (.inl q1)
  ·exact .inr (.inr (q1.put h0))
 ·rcases hb with ⟨a,k1,h1,h2⟩|⟨r,hr⟩
  ·rcases put_some_cases h1 with ⟨rfl,rfl⟩|⟨_,g1⟩
   ·rw [hfm] at h2;exact .inr (.inl ⟨a,k1,hid,h2⟩)
   ·rcases E.rwnew b (.inl ⟨a,k1,g1,h2⟩) with q1|q1
    ·exact .inl q1
    ·exact .inr (q1.put h0)
  ·rcases E.rwnew b (.inr ⟨r,hr⟩) with q1|q1
   ·exact .inl q1
   ·exact .inr (q1.put h0)
 ·rcases put_some_cases hb with ⟨rfl,rfl⟩|⟨hne,hb⟩
  ·exact ⟨k1,hid⟩
  ·obtain ⟨k2,q2⟩:=E.stay b k1 hb hd
   exact ⟨k2,by rw [put_ne _ _ hne];exact q2⟩
theorem HRel.unput {c:Cx} {h:AH} {id:Bid} {k:Blk} (h0:h.at_ id=none) (H:HRel c (h.put id (some k))):HRel c h:=by
 have:=(H.drop id).1
 have e:(h.put id (some k)).put id none=h:=by
  rw [put_put]
  cases h;simp only[AH.put,AH.mk.injEq,and_true]
  exact upd_self h0
 rw [e] at this;exact this
theorem ACalls.frame {f:FuncId} {args:List AV} {h:AH} {Q:AV→AH→Prop} {id:Bid} {k:Blk} (h0:h.at_ id=none) (H:ACalls P f args h Q) :
  ACalls P f args (h.put id (some k)) (fun v h'=>∃ h1,h1.at_ id=none∧h'=h1.put id (some k)∧Q v h1) :=
 ⟨H.1,fun c xs hh hv=>(H.2 c xs (hh.unput h0) hv).mono fun _ _ E=>E.frame h0 hh⟩
theorem AYields.frame {l:Nat} {args:List AV} {h:AH} {Q:AV→AH→Prop} {id:Bid} {k:Blk} (h0:h.at_ id=none) (H:AYields P l args h Q) :
  AYields P l args (h.put id (some k)) (fun v h'=>∃ h1,h1.at_ id=none∧h'=h1.put id (some k)∧Q v h1):=by
 intro c xs hh hv
 obtain ⟨fn,tmps,assign,body,h1,h2⟩:=H c xs (hh.unput h0) hv
 exact ⟨fn,tmps,assign,body,h1,h2.mono fun _ _ E=>E.frame h0 hh⟩
theorem AFn.frame {f:AV} {args:List AV} {h:AH} {Q:AV→AH→Prop} {id:Bid} {k:Blk} (h0:h.at_ id=none) (H:AFn P f args h Q) :
  AFn P f args (h.put id (some k)) (fun v h'=>∃ h1,h1.at_ id=none∧h'=h1.put id (some k)∧Q v h1):=by
 unfold AFn at H ⊢
 split at H
 ·exact H.frame h0
 ·exact H.frame h0
 ·exact H.elim
theorem put_swap {h:AH} {a b:Bid} (x y:Option Blk) (hne:b ≠ a):(h.put a x).put b y=(h.put b y).put a x:=by
 simp only[AH.put,AH.mk.injEq,and_true]
 exact upd_comm h.at_ x y hne
theorem asrc_frame {h:AH} {id:Bid} {k:Blk} {sz:Nat} {y:AV} {rows:List (List AV)} (h0:h.at_ id=none) (hs:asrc h sz y=some rows):asrc (h.put id (some k)) sz y=some rows:=by
 cases y <;> simp only[asrc,reduceCtorEq] at hs ⊢ <;> (try exact hs)
 rename_i b e o m
 cases hk:h.at_ b with
 | none=>rw [hk] at hs;cases hs
 | some k' =>
  have hne:b ≠ id:=fun e=>by rw [e,h0] at hk;cases hk
  rw [put_ne _ _ hne];exact hs
def slcApp (tt:Nat→TI) (el:Nat) (id:Bid) (rows:List (List AV)) (b:Bid) (e n:Nat) (q:Option Blk) (h:AH):Option (AV × AH):=match q with
 | some k=>if e=(tt el).size then (if n≤k.es.length then (if (n+rows.length) * (tt el).bytes≤big∧n+rows.length≤big then
   some (.slc id (tt el).size 0 (n+rows.length),(h.put b none).put id (some ⟨(tt el).size,k.es.take n ++ rows⟩)) else none) else none) else none
 | none=>none
theorem aapp_frame {h:AH} {id jd:Bid} {k:Blk} {t:Nat} {x y:AV} {r:AV × AH} (h0:h.at_ id=none) (hid:id ≠ jd) (H:aapp tt h t jd x y=some r) :
  aapp tt (h.put id (some k)) t jd x y=some (r.1,r.2.put id (some k))∧r.2.at_ id=none:=by
 unfold aapp at H ⊢
 cases hk:(tt t).k <;> rw [hk] at H <;> dsimp only at H ⊢ <;> (try (cases H;done))
 rename_i el
 split at H
 ·cases H
 rename_i hz
 rw [if_neg hz]
 cases hr:asrc h (tt el).size y with
 | none=>rw [hr] at H;cases H
 | some rows =>
  rw [hr] at H
  rw [asrc_frame h0 hr]
  dsimp only at H ⊢
  cases x <;> (try (cases H;done))
  all_goals try dsimp only at H ⊢
  ·split at H
   ·rename_i h1
    rw [if_pos h1]
    split at H
    ·rename_i h2
     rw [if_pos h2];cases H;exact ⟨rfl,h0⟩
    ·rename_i h2
     rw [if_neg h2];cases H
     exact ⟨by rw [put_swap _ _ hid.symm],(put_ne _ _ hid).trans h0⟩
   ·cases H
  ·rename_i b e i n
   cases i with
   | succ i=>cases H
   | zero =>
    have H:slcApp tt el jd rows b e n (h.at_ b) h=some r:=H
    show slcApp tt el jd rows b e n ((h.put id (some k)).at_ b) (h.put id (some k))=_∧_
    cases hb:h.at_ b with
    | none=>rw [hb] at H;cases H
    | some k' =>
     have hne:b ≠ id:=fun e=>by rw [e,h0] at hb;cases hb
     rw [hb] at H
     rw [put_ne _ _ hne,hb]
     unfold slcApp at H ⊢
     dsimp only at H ⊢
     split at H
     ·rename_i h1
      rw [if_pos h1]
      split at H
      ·rename_i h2
       rw [if_pos h2]
       split at H
       ·rename_i h3
        rw [if_pos h3];cases H
        exact ⟨by rw [put_swap _ _ hne,put_swap _ _ hid.symm],(put_ne _ _ hid).trans ((put_ne _ _ hne.symm).trans h0)⟩
       ·cases H
      ·cases H
     ·cases H
  ·split at H
   ·rename_i h1
    rw [if_pos h1]
    split at H
    ·rename_i h2
     rw [if_pos h2];cases H
     exact ⟨by rw [put_swap _ _ hid.symm],(put_ne _ _ hid).trans h0⟩
    ·cases H
   ·cases H
theorem aappN_frame {h:AH} {id jd:Bid} {k:Blk} {t:Nat} {x y:AV} {K:AV→AH→Prop} (h0:h.at_ id=none) (hid:id ≠ jd) (H:aappN tt h t jd x y K) :
  aappN tt (h.put id (some k)) t jd x y (fun v h'=>∃ h1,h1.at_ id=none∧h'=h1.put id (some k)∧K v h1):=by
 rcases H with ⟨b,o,n,k',el,rows,h1,h2,h3,h4,h5,h6,h7,h8,h9⟩|⟨el,es,rows,h1,h2,h3,h4,h5⟩
 case inr=>exact .inr ⟨el,es,rows,h1,h2,asrc_frame h0 h3,h4,_,h0,rfl,h5⟩
 have hne:b ≠ id:=fun e=>by rw [e,h0] at h5;cases h5
 exact .inl ⟨b,o,n,k',el,rows,h1,h2,h3,asrc_frame h0 h4,(put_ne _ _ hne).trans h5,h6,h7,
  ⟨_,(put_ne _ _ hne.symm).trans h0,put_swap _ _ hne,h8⟩,⟨_,(put_ne _ _ hid).trans h0,put_swap _ _ hid.symm,h9⟩⟩
theorem EH.frame {k0:Nat} {o:Oper} {ev:Operand→AV} {h:AH} {K:AV→AH→Prop} {id:Bid} {k:Blk} (h0:h.at_ id=none) (hid:∀ d,o.dst=some d→id ≠ (k0,d)) (H:EH P tt k0 o ev h K) :
  EH P tt k0 o ev (h.put id (some k)) (fun v h'=>∃ h1,h1.at_ id=none∧h'=h1.put id (some k)∧K v h1):=by
 unfold EH at H ⊢
 cases ho:o.op <;> rw [ho] at H <;> (try exact H.elim)
 rename_i cl
 dsimp only at H ⊢
 cases hc:cl.callee <;> rw [hc] at H <;> (try exact H.elim)
 ·exact ⟨H.1,H.2.frame h0⟩
 ·rename_i b
  cases b <;> (try exact H.elim)
  dsimp only at H ⊢
  cases ha:cl.args.toList with
  | nil=>rw [ha] at H;exact H
  | cons x l =>
   cases l with
   | nil=>rw [ha] at H;exact H
   | cons y l =>
    cases l with
    | cons _ _=>rw [ha] at H;exact H
    | nil =>
     rw [ha] at H
     cases hb:cl.argTypes.toList with
     | nil=>rw [hb] at H;exact H
     | cons t l =>
      cases l with
      | nil=>rw [hb] at H;exact H
      | cons t' l =>
       cases l with
       | cons _ _=>rw [hb] at H;exact H
       | nil =>
        rw [hb] at H
        dsimp only at H ⊢
        cases hd:o.dst with
        | none=>rw [hd] at H;exact H
        | some d =>
         rw [hd] at H
         dsimp only at H ⊢
         split at H
         ·rename_i ht
          rw [if_pos ht]
          rcases H with ⟨r,h1,h2⟩|H
          ·obtain ⟨g1,g2⟩:=aapp_frame (k:=k) h0 (hid d hd) h1
           exact .inl ⟨_,g1,_,g2,rfl,h2⟩
          ·exact .inr (aappN_frame h0 (hid d hd) H)
         ·exact H.elim
def AS.late (s:AS) (id:Bid) (d e:Nat):AS:=(s.newHeap id e []).set (some d) (.slc id e 0 0)
def pairOkL (L:List Nat) (fi:FI) (ops:Array Oper) (M:List Nat) (x y:Nat × Bool):Bool:=match ops[x.1]?,ops[y.1]? with
 | some a,some b=>x.1 != y.1 && (match a.dst with|some d=>b.dst != some d|none=>true) &&
   ((M.getD y.1 0).testBit x.1 || (a.apart ops b && isDet a && (isDet b || (isEff b && quiet fi (a,x.2)) || (isPut b && y.2 && putq fi b (a,x.2)) || (isPut b && still a))) || (L.contains y.1 && a.apart ops b && (isDet a || isEff a)))
 | _,_=>false
structure DIL (L:List Nat) (fi:FI) (ops:Array Oper) (M:List Nat) (listed:Array Bool) (R:List (Nat × Bool)) (D:List Nat):Prop where
 pw:R.Pairwise fun x y=>pairOkL L fi ops M x y=true
 idx:∀ i < ops.size,idxOk fi.n ops M i=true
 size:listed.size=ops.size
 inR:∀ i < ops.size,listed.getD i true=false→∃ fl,(i,fl) ∈ R
 notL:∀ x ∈ R,x.1 < ops.size∧listed.getD x.1 true=false
 closed:∀ i o,ops[i]?=some o→listed.getD i true=true→∀ e ∈ o.after,Region.binds .any e=true→listed.getD e.on false=true
 fresh:∀ x ∈ R,∀ o,ops[x.1]?=some o→∀ d,o.dst=some d→d ∉ D
variable {L:List Nat}
theorem DIL.before {fi:FI} {ops:Array Oper} {M:List Nat} {listed:Array Bool} {R:List (Nat × Bool)} {D:List Nat} (I:DIL L fi ops M listed R D):∀ (i:Nat) (o:Oper),ops[i]?=some o→(∀ e ∈ o.after,Region.binds .any e=true→listed.getD e.on false=true) →
  ∀ a,(M.getD i 0).testBit a=true→listed.getD a true=true:=by
 intro i
 induction i using Nat.strongRecOn with
 | _ i ih =>
  intro o ho hp a ha
  have hlt:i < ops.size:=(Array.getElem?_eq_some_iff.1 ho).1
  obtain ⟨h1,h2,_⟩:=idxOk_spec (I.idx i hlt) ho
  rw [h1] at ha
  obtain ⟨e,he,hb,hc⟩:=edgeMask_spec _ ha
  have he':e ∈ o.after:=by simpa using he
  have hl:=hp e he' hb
  have hlt':=h2 e he' hb
  have hl':listed.getD e.on true=true:=by
   have:e.on < listed.size:=by rw [I.size];omega
   simp [this] at hl ⊢;exact hl
  rcases hc with rfl|hc
  ·exact hl'
  ·have hsz:e.on < ops.size:=by omega
   exact ih e.on hlt' _ (Array.getElem?_eq_getElem hsz) (fun e'=>I.closed e.on _ (Array.getElem?_eq_getElem hsz) hl' e') a hc
theorem DIL.ready {fi:FI} {ops:Array Oper} {M:List Nat} {listed:Array Bool} {R:List (Nat × Bool)} {D:List Nat} (I:DIL L fi ops M listed R D) (hR:R ≠ []):Region.ready .any ops listed ≠ []:=by
 have hex:∃ i,i < ops.size∧listed.getD i true=false:=by
  cases R with
  | nil=>exact absurd rfl hR
  | cons x r=>exact ⟨x.1,I.notL x (by simp)⟩
 obtain ⟨i,⟨hi,hl⟩,hmin⟩:=exists_min _ hex
 have hm:i ∈ Region.ready .any ops listed:=mem_ready.2 ⟨hl,_,Array.getElem?_eq_getElem hi,fun e he hb=>by
  have hlt:=(idxOk_spec (I.idx i hi) (Array.getElem?_eq_getElem hi)).2.1 e he hb
  have hlt':e.on < listed.size:=by rw [I.size];omega
  cases hv:listed.getD e.on true with
  | true=>simp [hlt'] at hv ⊢;exact hv
  | false=>exact absurd (hmin e.on ⟨by omega,hv⟩) (by omega)⟩
 intro h
 rw [h] at hm
 cases hm
theorem DIL.step {fi:FI} {ops:Array Oper} {M:List Nat} {listed:Array Bool} {A B:List (Nat × Bool)} {i:Nat} {fl:Bool} {D:List Nat} {o:Oper} (I:DIL L fi ops M listed (A ++ (i,fl) :: B) D) (ho:ops[i]?=some o)
  (hp:∀ e ∈ o.after,Region.binds .any e=true→listed.getD e.on false=true):DIL L fi ops M (listed.setIfInBounds i true) (A ++ B) (o.dst.toList ++ D):=by
 have hlt:i < ops.size:=(Array.getElem?_eq_some_iff.1 ho).1
 have hpw:=I.pw
 rw [List.pairwise_append] at hpw
 obtain ⟨p1,p2,p3⟩:=hpw
 rw [List.pairwise_cons] at p2
 have hne:∀ x ∈ A ++ B,x.1 ≠ i∧(∀ ox d,ops[x.1]?=some ox→ox.dst=some d→o.dst ≠ some d):=by
  intro x hx
  have key:pairOkL L fi ops M x (i,fl)=true ∨ pairOkL L fi ops M (i,fl) x=true:=by
   rcases List.mem_append.1 hx with h|h
   ·exact .inl (p3 x h _ (by simp))
   ·exact .inr (p2.1 x h)
  rcases key with key|key
  ·unfold pairOkL at key
   rw [ho] at key
   cases hx1:ops[x.1]? with
   | none=>rw [hx1] at key;cases key
   | some ox =>
    rw [hx1] at key
    simp only[Bool.and_eq_true,bne_iff_ne,ne_eq] at key
    refine ⟨key.1.1,fun ox' d e1 e2 e3=>?_⟩
    cases e1
    have:=key.1.2
    rw [e2] at this
    simp [e3] at this
  ·unfold pairOkL at key
   rw [ho] at key
   cases hx1:ops[x.1]? with
   | none=>rw [hx1] at key;cases key
   | some ox =>
    rw [hx1] at key
    simp only[Bool.and_eq_true,bne_iff_ne,ne_eq] at key
    refine ⟨fun e=>key.1.1 e.symm,fun ox' d e1 e2 e3=>?_⟩
    cases e1
    have:=key.1.2
    rw [e3] at this
    simp [e2] at this
 have hset:∀ j,j ≠ i→∀ b,(listed.setIfInBounds i true).getD j b=listed.getD j b:=fun j hj b=>getD_set_ne b (Ne.symm hj)
 have hself:∀ b,(listed.setIfInBounds i true).getD i b=true:=fun b=>by
  have:i < listed.size:=by rw [I.size];exact hlt
  simp [this]
 refine ⟨?_,I.idx,by simp [I.size],fun j hj hl=>?_,fun x hx=>?_,fun j oj hoj hl e he hb=>?_,fun x hx ox hox d hd=>?_⟩
 ·rw [List.pairwise_append]
  exact ⟨p1,p2.2,fun x hx y hy=>p3 x hx y (by simp [hy])⟩
 ·have hji:j ≠ i:=by rintro rfl;rw [hself] at hl;cases hl
  rw [hset j hji] at hl
  obtain ⟨f,hf⟩:=I.inR j hj hl
  refine ⟨f,?_⟩
  rcases List.mem_append.1 hf with h|h
  ·exact List.mem_append.2 (.inl h)
  ·rcases List.mem_cons.1 h with h|h
   ·simp only[Prod.mk.injEq] at h;exact absurd h.1 hji
   ·exact List.mem_append.2 (.inr h)
 ·have:=I.notL x (by rcases List.mem_append.1 hx with h|h <;> simp [h])
  rw [hset _ (hne x hx).1]
  exact this
 ·by_cases hji:j=i
  ·subst hji
   rw [ho] at hoj;cases hoj
   have:=hp e he hb
   by_cases hei:e.on=j
   ·rw [hei];exact hself _
   ·rw [hset _ hei];exact this
  ·rw [hset j hji] at hl
   have:=I.closed j oj hoj hl e he hb
   by_cases hei:e.on=i
   ·rw [hei];exact hself _
   ·rw [hset _ hei];exact this
 ·rw [List.mem_append]
  rintro (h|h)
  ·rw [Option.mem_toList] at h
   exact (hne x hx).2 ox d hox hd h
  ·exact I.fresh x (by rcases List.mem_append.1 hx with h|h <;> simp [h]) ox hox d hd h
end Go.Av
namespace Go.Av
variable {P:Program} {tt:Nat→TI} {fi:FI} {k0:Nat} {K:AS→Prop} {T:Nat→AV} {B:Bid→Option (List AV)} {M:List Nat} {H:AH}
@[go_sem] theorem gl_put (h:AH) (b:Bid) (k:Option Blk):(h.put b k).gl=h.gl:=rfl
@[go_sem] theorem gl_tick (h:AH) (n:Nat):(h.tick n).gl=h.gl:=rfl
@[go_sem] theorem gl_lpSet (h:AH) (l:Nat) (r:Option LRec):(h.lpSet l r).gl=h.gl:=rfl
@[go_sem] theorem ev_global (g:Nat):AS.ev (⟨T,B,M,H⟩:AS) (.global g)=.gptr g 0:=rfl
@[go_sem] theorem amove_gptr (n g j:Nat):amove n (.gptr g j)=some (.gptr g (j+n)):=rfl
@[go_sem] theorem nilv_gptr (g j:Nat):nilv (.gptr g j)=some (.gptr g j):=rfl
@[go_sem] theorem row_gptr (g j:Nat):AS.row (⟨T,B,M,H⟩:AS) (.gptr g j)=match H.gl g with|some cs=>some (cs,j)|none=>none:=rfl
@[go_sem] theorem noL_gptr (g j:Nat):noL (.gptr g j)=true:=rfl
@[go_sem] theorem cells_gptr (g j:Nat):AV.cells (.gptr g j)=[.gptr g j]:=rfl
@[go_sem] theorem cell_gptr (g j:Nat):AV.cell (.gptr g j)=true:=rfl
@[go_sem] theorem flag_gptr (fi:FI) (o:Oper) (s:AS):flagOk fi false o s=true:=rfl
@[go_sem] theorem noL_lstx (e:Nat) (es:List (List AV)):noL (.lstx e es)=true:=rfl
@[go_sem] theorem cells_lstx (e:Nat) (es:List (List AV)):AV.cells (.lstx e es)=[.lstx e es]:=rfl
@[go_sem] theorem cell_lstx (e:Nat) (es:List (List AV)):AV.cell (.lstx e es)=true:=rfl
@[go_sem] theorem asrc_lstx (h:AH) (z e:Nat) (es:List (List AV)):asrc h z (.lstx e es)=if e=z then some es else none:=rfl
@[go_sem] theorem aappz_lstx (z m:Nat) (h:AH) (id:Bid) (e:Nat) (es:List (List AV)) (y:AV):aappz z m h id (.lstx e es) y=if z=0 then none else (asrc h z y).bind fun rows=>if e=z∧rows.length ≠ 0 then (if (es.length+rows.length) * m≤big∧es.length+rows.length≤big then some (.slc id z 0 (es.length+rows.length),h.put id (some ⟨z,es ++ rows⟩)) else none) else none:=by
 unfold aappz
 split
 ·rfl
 ·cases asrc h z y <;> rfl
def PureG (G:Nat→Option (List AV)) (P:Program) (f:FuncId) (args:List AV) (R:AV→Prop):Prop:=∀ h,h.gl=G→ACalls P f args h (fun v h'=>Later h h'∧R v)
theorem Pure.g {G:Nat→Option (List AV)} {f:FuncId} {args:List AV} {R:AV→Prop} (h:Pure P f args R):PureG G P f args R:=fun x _=>h x
theorem PureG.mono {G:Nat→Option (List AV)} {f:FuncId} {args:List AV} {R R':AV→Prop} (h:PureG G P f args R) (k:∀ v,R v→R' v):PureG G P f args R':=fun x hx=>(h x hx).mono fun v _ q=>⟨q.1,k v q.2⟩
theorem PureG.give {G:Nat→Option (List AV)} {f:FuncId} {args:List AV} {R:AV→Prop} (he:Enters P f)
  (H:∀ h,h.gl=G→(∀ b k,h.at_ b=some k→b.1 < h.clk)→ACalls P f args h (fun v h'=>(∀ b',b'.1 < h.clk→h'.at_ b'=h.at_ b')∧h'.lp=h.lp ∧
   ((∃ v',VLe v v'∧R v') ∨ ∃ b2 k,h.clk≤b2.1∧h'.at_ b2=some k∧R (frz b2 k v)))):PureG G P f args R:=by
 intro h hgl
 refine ACalls.old he fun hold=>?_
 refine ACalls.forget (((H h hgl hold).mono (Q':=fun v h'=>(∃ v',VLe v v'∧((∀ b',b'.1 < h.clk→h'.at_ b'=h.at_ b')∧h'.lp=h.lp∧R v')) ∨ ∃ b2 k,h'.at_ b2=some k∧h.at_ b2=none ∧
  ((∀ b',b'.1 < h.clk→(h'.put b2 none).at_ b'=h.at_ b')∧(h'.put b2 none).lp=h.lp∧R (frz b2 k v))) ?_).give)
 rintro v h' ⟨h1,h4,h5|⟨b2,k,h5,h6,h7⟩⟩
 ·obtain ⟨v',hv,hr⟩:=h5
  exact .inl ⟨v',hv,h1,h4,hr⟩
 ·refine .inr ⟨b2,k,h6,?_,fun b' hb'=>?_,h4,h7⟩
  ·cases e:h.at_ b2 with
   | none=>rfl
   | some k'=>exact absurd (hold b2 k' e) (by omega)
  ·rw [put_ne _ _ (fun e=>by rw [e] at hb';omega)];exact h1 b' hb'
theorem st_pureG {G:Nat→Option (List AV)} {d:Tmp} {fid:FuncId} {xs:Array Operand} {ts:Array TypeId} {t:TypeId} {p:String} {a:Array Edge} {g:Option (Nat × Bool)} {args:List AV} {R:AV→Prop} {k:Nat} {H':Nat→AH}
  (ha:xs.toList.map (AS.ev ⟨T,B,M,H⟩)=args) (hn:args.all noL=true) (hc:PureG G P fid args R) (hg:H.gl=G) (hcl:H.clk=k) (hH:∀ n,H.tick n=H' n) (hk:∀ v n,R v→k≤n→K ⟨upd T d v,B,M,H' n⟩) :
  awp1 P tt fi k0 ⟨some d,.call ⟨.value (.func fid),xs,ts⟩,t,p,a,g⟩ ⟨T,B,M,H⟩ K:=by
 refine st_callf ha hn (hc H hg) ?_
 rintro v h' ⟨⟨n,hn,rfl⟩,hr⟩
 rw [hH]
 exact hk v n hr (hcl ▸ hn)
theorem st_pureGE {G:Nat→Option (List AV)} {d:Tmp} {fid:FuncId} {xs:Array Operand} {ts:Array TypeId} {t:TypeId} {p:String} {a:Array Edge} {g:Option (Nat × Bool)} {args:List AV} {v:AV} {k:Nat} {H':Nat→AH}
  (ha:xs.toList.map (AS.ev ⟨T,B,M,H⟩)=args) (hn:args.all noL=true) (hc:PureG G P fid args (fun x=>x=v)) (hg:H.gl=G) (hcl:H.clk=k) (hH:∀ n,H.tick n=H' n) (hk:∀ n,k≤n→K ⟨upd T d v,B,M,H' n⟩) :
  awp1 P tt fi k0 ⟨some d,.call ⟨.value (.func fid),xs,ts⟩,t,p,a,g⟩ ⟨T,B,M,H⟩ K:=by
 refine st_pureG ha hn hc hg hcl hH ?_
 rintro _ n rfl hn
 exact hk n hn
theorem ACalls.keepGl {f:FuncId} {args:List AV} {h:AH} {Q:AV→AH→Prop} (H:ACalls P f args h Q):ACalls P f args h (fun v h'=>h'.gl=h.gl∧Q v h'):=by
 refine ⟨H.1,fun c xs hh hv=>(H.2 c xs hh hv).mono ?_⟩
 rintro e w' ⟨v,x,c',h',rfl,rfl,hx,H',E,hdn,q⟩
 exact ⟨v,x,c',h',rfl,rfl,hx,H',E,hdn,E.gl,q⟩
end Go.Av
namespace Go.Av
variable {P:Program} {tt:Nat→TI} {fi:FI} {k0:Nat} {K:AS→Prop} {T:Nat→AV} {B:Bid→Option (List AV)} {M:List Nat} {H:AH}
@[go_sem] theorem row_aptr (b:Bid) (m j:Nat):AS.row (⟨T,B,M,H⟩:AS) (.aptr b m j)=(H.at_ b).bind fun k=>if k.esz=1 then some (k.es.flatten,j) else none:=by
 simp only[AS.row];cases H.at_ b <;> rfl
@[go_sem] theorem amove_aptr (n:Nat) (b:Bid) (m j:Nat):amove n (.aptr b m j)=none:=rfl
@[go_sem] theorem noL_aptr (b:Bid) (m j:Nat):noL (.aptr b m j)=true:=rfl
@[go_sem] theorem cells_aptr (b:Bid) (m j:Nat):AV.cells (.aptr b m j)=[.aptr b m j]:=rfl
@[go_sem] theorem cell_aptr (b:Bid) (m j:Nat):AV.cell (.aptr b m j)=true:=rfl
@[go_sem] theorem aputz_aptr (z:Nat) (b:Bid) (m j:Nat) (v:AV):aputz z (⟨T,B,M,H⟩:AS) (.aptr b m j) v=if noL v=true∧v.cells.length=z∧v.cells.all AV.cell=true then (H.at_ b).bind fun k=>if k.esz=1∧j=0∧z=m∧k.es.length=m then some ⟨T,B,M,H.put b (some ⟨1,v.cells.map fun x=>[x]⟩)⟩ else none else none:=by
 unfold aputz
 split
 ·simp only;cases H.at_ b <;> rfl
 ·rfl
theorem asl_aptr {ti:TI} {n el:Nat} (hk:ti.k=.array n el) (hn:n≤maxLen) (b:Bid) (m j:Nat):asl ti 1 none none (.aptr b m j)=if j+n≤m then some (.slc b 1 j n) else none:=by
 simp only[asl,hk,true_and,hn,and_true]
theorem flatten_single {α:Type}:∀ (l:List α),(l.map fun x=>[x]).flatten=l
 | []=>rfl
 | a :: l=>by simp only[List.map_cons,List.flatten_cons,flatten_single l,List.singleton_append]
def Cx.flat (c:Cx) (b id:Bid):Cx:={ c with fm:=upd c.fm id ⟨(c.fm b).blk,1,(c.fm b).tot⟩,dom:=fun x=>x=id ∨ c.dom x }
theorem VRs.singles {c:Cx}:∀ {cs:List AV} {xs:List Value},VRs c cs xs→VRss c (cs.map fun x=>[x]) (xs.map fun x=>[x])
 | [],_,h=>by simp only[VRs] at h;subst h;simp [VRss]
 | v :: cs,_,h=>by
  simp only[VRs] at h
  obtain ⟨x,xs,rfl,h1,h2⟩:=h
  simp only[List.map_cons,VRss]
  exact ⟨_,_,rfl,VRs.cons h1 VRs.nil,VRs.singles h2⟩
theorem HRel.flat {c:Cx} {h:AH} (H:HRel c h) {b id:Bid} {n:Nat} {row:List AV} (hb:h.at_ b=some ⟨n,[row]⟩) (hid:¬ c.dom id) (hlt:id.1 < h.clk) :
  HRel (c.flat b id) ((h.put b none).put id (some ⟨1,row.map fun x=>[x]⟩))∧Evo c h (c.flat b id) ((h.put b none).put id (some ⟨1,row.map fun x=>[x]⟩)):=by
 let c':=c.flat b id
 have hne:b ≠ id:=by rintro rfl;exact hid (H.blk b _ hb).1
 have hfm:∀ x,x ≠ id→c'.fm x=c.fm x:=fun x hx=>upd_ne _ _ hx
 have hfi:c'.fm id=⟨(c.fm b).blk,1,(c.fm b).tot⟩:=upd_same _ _ _
 have hle:c.Le c':=⟨fun _ h=>.inr h,fun x hx=>hfm x (fun e=>hid (e ▸ hx)),fun _ h=>h,fun _ _=>rfl⟩
 have at_:∀ x k',((h.put b none).put id (some ⟨1,row.map fun x=>[x]⟩)).at_ x=some k'→(x=id∧k'=⟨1,row.map fun x=>[x]⟩) ∨ (x ≠ id∧x ≠ b∧h.at_ x=some k'):=by
  intro x k' hx
  simp only[AH.put,upd_apply] at hx
  split at hx
  ·rename_i e;exact .inl ⟨e,by cases hx;rfl⟩
  ·rename_i e
   split at hx
   ·cases hx
   ·rename_i e';exact .inr ⟨e,e',hx⟩
 have hB:=H.blk b _ hb
 refine ⟨⟨?_,?_,?_,?_,H.imlt,fun l r hr=>(H.lp l r hr).mono hle rfl,H.lpim,fun x k' l r hx hr=>(at_ x k' hx).elim (fun e=>by rw [e.1,hfi];exact H.lpat b _ l r hb hr) (fun e=>by rw [hfm x e.1];exact H.lpat x k' l r e.2.2 hr),H.gl.mono hle⟩,⟨hle,Nat.le_refl _,Nat.le_refl _,fun _ _ _=>rfl,fun _ h=>.inl h,?_,?_,rfl,rfl,rfl,rfl⟩⟩
 ·rintro x (rfl|hx)
  ·exact hlt
  ·exact H.clk x hx
 ·intro x k' hx
  rcases at_ x k' hx with ⟨rfl,rfl⟩|⟨h1,h2,h3⟩
  ·obtain ⟨_,g2,g3,g4,g5,vs,g7,g8⟩:=hB
   dsimp only at g3 g4 g7 g8
   obtain ⟨hrl,hra⟩:=g3 row (by simp)
   simp only[VRss] at g7
   obtain ⟨x0,xs0,rfl,hv,rfl⟩:=g7
   have h0:=g8 0 x0 rfl
   rw [Nat.zero_mul] at h0
   refine ⟨.inl rfl,by rw [hfi],?_,?_,by rw [hfi];exact g5,_,VRss.mono hle _ _ hv.singles,fun i r hr=>?_⟩
   ·intro r hr
    obtain ⟨u,hu,rfl⟩:=List.mem_map.1 hr
    exact ⟨rfl,by simp [List.all_eq_true.1 hra u hu]⟩
   ·rw [hfi]
    simp only[List.length_map,Nat.mul_one,List.length_singleton,Nat.one_mul,hrl] at g4 ⊢
    exact g4
   ·rw [hfi]
    rw [List.getElem?_map] at hr
    cases hxi:x0[i]? with
    | none=>rw [hxi] at hr;cases hr
    | some y =>
     rw [hxi] at hr
     cases hr
     intro j v hj
     cases j with
     | zero =>
      simp only[List.getElem?_cons_zero,Option.some.injEq] at hj
      subst hj
      have:=h0 i _ hxi
      rw [Nat.zero_add] at this
      simp only[Nat.mul_one,Nat.add_zero]
      exact this
     | succ j=>simp at hj
  ·exact (H.blk x k' h3).mono hle rfl
 ·intro x y k1 k2 hx hy he
  rcases at_ x k1 hx with ⟨rfl,_⟩|⟨h1,h2,h3⟩ <;> rcases at_ y k2 hy with ⟨e,_⟩|⟨h4,h5,h6⟩
  ·exact e.symm
  ·rw [hfi,hfm y h4] at he
   exact absurd (H.inj b y _ k2 hb h6 he).symm h5
  ·rw [e,hfi,hfm x h1] at he
   exact absurd (H.inj x b k1 _ h3 hb he) h2
  ·rw [hfm x h1,hfm y h4] at he
   exact H.inj x y k1 k2 h3 h6 he
 ·intro x k' hx
  rcases at_ x k' hx with ⟨rfl,_⟩|⟨h1,_,h3⟩
  ·rw [hfi];exact H.im b _ hb
  ·rw [hfm x h1];exact H.im x k' h3
 ·rintro i (⟨x,k',hx,rfl⟩|⟨r,hr⟩)
  ·rcases at_ x k' hx with ⟨rfl,_⟩|⟨h1,_,h3⟩
   ·rw [hfi];exact .inr (.inl ⟨b,_,hb,rfl⟩)
   ·rw [hfm x h1];exact .inr (.inl ⟨x,k',h3,rfl⟩)
  ·exact .inr (.inr ⟨r,hr⟩)
 ·intro x k' hx hd
  rcases at_ x k' hx with ⟨rfl,_⟩|⟨_,_,h3⟩
  ·exact absurd hd hid
  ·exact ⟨_,h3⟩
theorem ASem.flat {r:Option Nat} {n:Nat} {code:Code} {Q:Exit→AS→Prop} {b:Bid} {z:Nat} {row:List AV} (d:Nat) (hb:H.at_ b=some ⟨z,[row]⟩) (hd:T d=.ptr b 0 0) (hz:z=row.length)
  (h:ASem P r n code Q ⟨upd T d (.aptr (H.clk,0) row.length 0),B,M,((H.tick (H.clk+1)).put b none).put (H.clk,0) (some ⟨1,row.map fun x=>[x]⟩)⟩):ASem P r n code Q ⟨T,B,M,H⟩:=by
 intro c0 h0 c lb a S
 have hk:HRel c (H.tick (H.clk+1)):=S.hr.tick (Nat.le_succ _)
 let id:Bid:=(H.clk,0)
 have hid:¬ c.dom id:=fun hdm=>Nat.lt_irrefl _ (S.hr.clk id hdm)
 obtain ⟨H2,E2⟩:=HRel.flat (id:=id) hk (b:=b) (n:=z) (row:=row) hb hid (Nat.lt_succ_self _)
 have E0:Evo c H c (H.tick (H.clk+1)):=⟨Cx.Le.refl c,Nat.le_succ _,Nat.le_refl _,fun _ _ _=>rfl,fun _ h=>.inl h,fun _ h=>.inr h,fun _ k h _=>⟨k,h⟩,rfl,rfl,rfl,rfl⟩
 have hclk:h0.clk≤H.clk:=S.evo.clk
 have S2:=S.go H2 (E0.trans E2) (by rintro x (rfl|hx);exact .inr hclk;exact .inl hx)
 refine h c0 h0 (c.flat b id) lb a ⟨S2.hr,⟨S2.fr.size,fun t=>?_,S2.fr.defers,S2.fr.marks,S2.fr.box,S2.fr.lbclk,S2.fr.lbinj,S2.fr.lbsize⟩,S2.evo,S2.new,S2.dn,S2.mnew⟩
 by_cases e:t=d
 ·subst e
  dsimp only
  rw [upd_same]
  have:=S.fr.tmps t
  dsimp only at this
  rw [hd] at this
  have this':VR c (.ptr b 0 0) _:=this
  simp only[VR] at this'
  show VR _ (.aptr id row.length 0) _
  simp only[VR]
  obtain ⟨_,_,_,g4,_,_⟩:=S.hr.blk b _ hb
  have hf:(c.flat b id).fm id=⟨(c.fm b).blk,1,(c.fm b).tot⟩:=upd_same _ _ _
  rw [hf]
  refine ⟨.inl rfl,rfl,?_,?_⟩
  ·simp only[List.length_singleton,Nat.one_mul] at g4
   show row.length≤(c.fm b).tot
   omega
  ·rw [this'.2];simp
 ·dsimp only;rw [upd_ne _ _ e];exact S2.fr.tmps t
end Go.Av
namespace Go.Av
variable {P:Program} {tt:Nat→TI} {fi:FI} {k0:Nat} {K:AS→Prop} {T:Nat→AV} {B:Bid→Option (List AV)} {M:List Nat} {H:AH}
def SlZ (z c0:Nat) (g:AH) (v:AV) (l:List (List AV)):Prop:=(v=.nils∧l=[]) ∨ ∃ (b:Bid) (es:List (List AV)),v=.slc b z 0 l.length∧g.at_ b=some ⟨z,es⟩∧l.length≤es.length∧es.take l.length=l∧c0≤b.1∧b.1 < g.clk
theorem SlZ.noL {z c0:Nat} {g:AH} {v:AV} {l:List (List AV)} (h:SlZ z c0 g v l):noL v=true:=by
 rcases h with ⟨rfl,_⟩|⟨b,es,rfl,_⟩ <;> rfl
theorem SlZ.same {z c0:Nat} {g h':AH} {v:AV} {l:List (List AV)} (h:SlZ z c0 g v l) (k:∀ b:Bid,c0≤b.1→b.1 < g.clk→h'.at_ b=g.at_ b) (hc:g.clk≤h'.clk):SlZ z c0 h' v l:=by
 rcases h with h|⟨b,es,e,h2,h3,h4,h5,h6⟩
 ·exact .inl h
 ·exact .inr ⟨b,es,e,by rw [k b h5 h6];exact h2,h3,h4,h5,Nat.lt_of_lt_of_le h6 hc⟩
structure AppZ (z c0 k0 d:Nat) (H:AH) (v:AV) (n:Nat) (l:List (List AV)) (r:List AV) (v':AV) (G:AH):Prop where
 sl:SlZ z c0 (G.tick n) v' (l ++ [r])
 lp:G.lp=H.lp
 keep:∀ b:Bid,(∀ m,v ≠ .slc b z 0 m)→b ≠ (k0,d)→G.at_ b=H.at_ b
 own:∀ b m,v=.slc b z 0 m→∃ es',G.at_ b=some ⟨z,es'⟩∧l.length≤es'.length∧es'.take l.length=l
 new:∀ b m,v'=.slc b z 0 m→b=(k0,d) ∨ ∃ m,v=.slc b z 0 m
 ext:∃ b,(k0≤b.1 ∨ ∃ m,v=.slc b z 0 m)∧(∃ k,G=H.put b (some k))
theorem st_appZ {d:Tmp} {x y:Operand} {u t:TypeId} {p:String} {a:Array Edge} {g:Option (Nat × Bool)} {v:AV} {z m n c0 el:Nat} {l:List (List AV)} {r:List AV}
  (ht:∀ h id x y,aapp tt h u id x y=aappz z m h id x y) (hk':(tt u).k=.slice el) (hz:(tt el).size=z) (hz0:¬ z=0) (hm':(tt el).bytes=m) (hx:AS.ev ⟨T,B,M,H⟩ x=v) (hy:asrc H z (AS.ev ⟨T,B,M,H⟩ y)=some [r]) (hcl:H.clk=n)
  (hS:SlZ z c0 H v l) (hb:(l.length+1) * m≤big∧l.length+1≤big) (h0k:c0≤k0) (hk0:k0 < n)
  (hk:∀ v' G,AppZ z c0 k0 d H v n l r v' G→K ⟨upd T d v',B,M,G.tick n⟩) :
  awp1 P tt fi k0 ⟨some d,.call ⟨.builtin .append,#[x,y],#[u,u]⟩,t,p,a,g⟩ ⟨T,B,M,H⟩ K:=by
 subst hcl
 rcases hS with ⟨rfl,rfl⟩|⟨b1,es,rfl,h2,h3,h4,h5,h6⟩
 ·refine st_append (v:=.slc (k0,d) z 0 1) (H':=H.put (k0,d) (some ⟨z,[r]⟩)) ?_ ?_
  ·rw [ht,hx];unfold aappz;rw [if_neg hz0,hy];dsimp only;simp only[List.length_nil,Nat.zero_add] at hb;simp only[List.length_cons,List.length_nil,Nat.zero_add];rw [if_pos hb,if_neg (by decide)]
  ·have hs:((H.put (k0,d) (some ⟨z,[r]⟩)).tick H.clk).at_ (k0,d)=some ⟨z,[r]⟩:=put_same H (k0,d) _
   exact hk _ (H.put (k0,d) (some ⟨z,[r]⟩)) {
    sl:=.inr ⟨(k0,d),[r],rfl,hs,by simp,by simp,h0k,hk0⟩
    lp:=rfl
    keep:=fun b _ h2=>put_ne H _ h2
    own:=fun b m e=>by cases e
    new:=fun b m e=>.inl (by injection e with e1;exact e1.symm)
    ext:=⟨(k0,d),.inl (Nat.le_refl _),_,rfl⟩ }
 ·have hl1:(l ++ [r]).length=l.length+1:=by simp
  have q1:(l ++ [r]).length≤(es.take l.length ++ [r]).length:=by rw [h4];exact Nat.le_refl _
  have q2:(es.take l.length ++ [r]).take (l ++ [r]).length=l ++ [r]:=by rw [h4,List.take_of_length_le (Nat.le_refl _)]
  have q3:l.length≤(es.take l.length ++ [r]).length:=by rw [h4,hl1];omega
  have q4:(es.take l.length ++ [r]).take l.length=l:=by rw [h4];simp
  refine st_appN (b:=b1) (n:=l.length) (z:=z) (m:=m) (el:=el) (k:=⟨z,es⟩) (rows:=[r]) hx hk' hz hz0 hm' hy h2 h3 hb ?_ ?_
  ·have hs:((H.put b1 (some ⟨z,es.take l.length ++ [r]⟩)).tick H.clk).at_ b1=some ⟨z,es.take l.length ++ [r]⟩:=put_same H b1 _
   exact hk (.slc b1 z 0 (l.length+1)) (H.put b1 (some ⟨z,es.take l.length ++ [r]⟩)) {
    sl:=.inr ⟨b1,_,by rw [hl1],hs,q1,q2,h5,h6⟩
    lp:=rfl
    keep:=fun b h7 _=>put_ne H _ (fun e=>h7 l.length (by rw [e]))
    own:=fun b m' e=>by
     injection e with e1
     subst e1
     exact ⟨_,hs,q3,q4⟩
    new:=fun b m' e=>.inr ⟨l.length,by injection e with e1;rw [e1]⟩
    ext:=⟨b1,.inr ⟨l.length,rfl⟩,_,rfl⟩ }
  ·have hs:((H.put (k0,d) (some ⟨z,es.take l.length ++ [r]⟩)).tick H.clk).at_ (k0,d)=some ⟨z,es.take l.length ++ [r]⟩:=put_same H (k0,d) _
   exact hk (.slc (k0,d) z 0 (l.length+1)) (H.put (k0,d) (some ⟨z,es.take l.length ++ [r]⟩)) {
    sl:=.inr ⟨(k0,d),_,by rw [hl1],hs,q1,q2,h0k,hk0⟩
    lp:=rfl
    keep:=fun b _ h7=>put_ne H _ h7
    own:=fun b m' e=>by
     injection e with e1
     subst e1
     by_cases e2:b1=(k0,d)
     ·rw [e2];exact ⟨_,hs,q3,q4⟩
     ·exact ⟨es,by rw [put_ne H _ e2];exact h2,h3,h4⟩
    new:=fun b m' e=>.inl (by injection e with e1;exact e1.symm)
    ext:=⟨(k0,d),.inl (Nat.le_refl _),_,rfl⟩ }
theorem SlZ.cells {z c0:Nat} {g:AH} {v:AV} {l:List (List AV)} (h:SlZ z c0 g v l):AV.cells v=[v]:=by
 rcases h with ⟨rfl,_⟩|⟨b,es,rfl,_⟩ <;> rfl
theorem SlZ.cell {z c0:Nat} {g:AH} {v:AV} {l:List (List AV)} (h:SlZ z c0 g v l):AV.cell v=true:=by
 rcases h with ⟨rfl,_⟩|⟨b,es,rfl,_⟩ <;> rfl
theorem SlZ.len {z c0:Nat} {g:AH} {v:AV} {l:List (List AV)} (h:SlZ z c0 g v l) {ti:TI} {el:Nat} (hk:ti.k=.slice el):alen ti v=some (l.length:Int):=by
 rcases h with ⟨rfl,rfl⟩|⟨b,es,rfl,_⟩ <;> simp [alen,hk]
theorem SlZ.cut {z c0:Nat} {g:AH} {v:AV} {l k:List (List AV)} (h:SlZ z c0 g v (l ++ k)) (hk:k ≠ []):∃ b,v=.slc b z 0 (l ++ k).length∧SlZ z c0 g (.slc b z 0 l.length) l:=by
 rcases h with ⟨_,e⟩|⟨b,es,rfl,h2,h3,h4,h5,h6⟩
 ·simp at e;exact absurd e.2 hk
 ·refine ⟨b,rfl,.inr ⟨b,es,rfl,h2,by simp at h3;omega,?_,h5,h6⟩⟩
  have:=congrArg (List.take l.length) h4
  rw [List.take_take,Nat.min_eq_left (by simp)] at this
  rw [this];simp
end Go.Av
namespace Go.Av
variable {P:Program} {tt:Nat→TI} {fi:FI} {k0:Nat} {K:AS→Prop} {T:Nat→AV} {B:Bid→Option (List AV)} {M:List Nat} {H:AH}
theorem ACalls.giveAt {f:FuncId} {args:List AV} {R:AV→Prop} {h:AH} (he:Enters P f)
  (H:(∀ b k,h.at_ b=some k→b.1 < h.clk)→ACalls P f args h (fun v h'=>(∀ b',b'.1 < h.clk→h'.at_ b'=h.at_ b')∧h'.lp=h.lp ∧
   ((∃ v',VLe v v'∧R v') ∨ ∃ b2 k,h.clk≤b2.1∧h'.at_ b2=some k∧R (frz b2 k v)))):ACalls P f args h (fun v h'=>Later h h'∧R v):=by
 refine ACalls.old he fun hold=>?_
 refine ACalls.forget (((H hold).mono (Q':=fun v h'=>(∃ v',VLe v v'∧((∀ b',b'.1 < h.clk→h'.at_ b'=h.at_ b')∧h'.lp=h.lp∧R v')) ∨ ∃ b2 k,h'.at_ b2=some k∧h.at_ b2=none ∧
  ((∀ b',b'.1 < h.clk→(h'.put b2 none).at_ b'=h.at_ b')∧(h'.put b2 none).lp=h.lp∧R (frz b2 k v))) ?_).give)
 rintro v h' ⟨h1,h4,h5|⟨b2,k,h5,h6,h7⟩⟩
 ·obtain ⟨v',hv,hr⟩:=h5
  exact .inl ⟨v',hv,h1,h4,hr⟩
 ·refine .inr ⟨b2,k,h6,?_,fun b' hb'=>?_,h4,h7⟩
  ·cases e:h.at_ b2 with
   | none=>rfl
   | some k'=>exact absurd (hold b2 k' e) (by omega)
  ·rw [put_ne _ _ (fun e=>by rw [e] at hb';omega)];exact h1 b' hb'
def VLess:List (List AV)→List (List AV)→Prop
 | [],l=>l=[]
 | r :: rs,l=>∃ r' rs',l=r' :: rs'∧VLes r r'∧VLess rs rs'
theorem VLes.length:∀ {vs vs':List AV},VLes vs vs'→vs'.length=vs.length
 | [],_,h=>by simp only[VLes] at h;subst h;rfl
 | v :: vs,_,h=>by
  simp only[VLes] at h
  obtain ⟨v',vs',rfl,_,h2⟩:=h
  simp [h2.length]
theorem VLess.length:∀ {vs vs':List (List AV)},VLess vs vs'→vs'.length=vs.length
 | [],_,h=>by simp only[VLess] at h;subst h;rfl
 | v :: vs,_,h=>by
  simp only[VLess] at h
  obtain ⟨v',vs',rfl,_,h2⟩:=h
  simp [h2.length]
theorem VLess.rel {c:Cx}:∀ {vs vs':List (List AV)} {xs:List (List Value)},VLess vs vs'→VRss c vs xs→VRss c vs' xs
 | [],_,_,h,k=>by simp only[VLess] at h;subst h;exact k
 | v :: vs,_,_,h,k=>by
  simp only[VLess] at h
  obtain ⟨v',vs',e,h1,h2⟩:=h
  subst e
  simp only[VRss] at k ⊢
  obtain ⟨x,xs,e,k1,k2⟩:=k
  exact ⟨x,xs,e,h1.rel k1,h2.rel k2⟩
theorem VLe.lst {e:Nat} {es es':List (List AV)} (h:VLess es es') (hr:∀ r ∈ es',r.length=e∧r.all AV.cell=true):VLe (.lst e es) (.lst e es'):=by
 intro c x k
 simp only[VR] at k ⊢
 obtain ⟨a,cap,vs,hx,hcap,hn,_,hat,hvs⟩:=k
 have hl:=h.length
 refine ⟨a,cap,vs,by rw [hl];exact hx,by rw [hl];exact hcap,fun q=>?_,hr,hat,h.rel hvs⟩
 have:=hn q
 rw [this] at hl
 exact List.length_eq_zero_iff.1 hl
end Go.Av
namespace Go.Av
open Go Go.ChangeShapes Go.WideShapes Go.ChangeAt Go.RowKit
variable {P:Program} {H:Type} {enc:TypeId × Value→H} {w:World} {spare:Nat→Bool} {held:Bool}
def h00g (G:Nat→Option (List AV)):AH:={ h00 with gl:=G }
theorem h00g_rel {G:Nat→Option (List AV)} {w:World} (hG:GL (c00 w) G):HRel (c00 w) (h00g G) :=
 ⟨fun _ h=>h.elim,fun _ _ h=>(by cases h),fun _ _ _ _ h=>(by cases h),fun _ _ h=>(by cases h),fun _ h=>h,fun _ _ h=>(by cases h),fun _ _ h=>(by cases h),fun _ _ _ _ h=>(by cases h),hG⟩
theorem PureG.walk {f:FuncId} {args:List AV} {xs:List Value} {G:Nat→Option (List AV)} (H:PureG G P f args (fun v=>v=.bool true)) (hG:GL (c00 w) G) (hv:VRs (c00 w) args xs) :
  Calls P f xs.toArray w (fun e w'=>e=.returned (.bool true)∧Below w.heap.size w w'):=by
 have h:=(H (h00g G) rfl).2 (c00 w) xs (h00g_rel hG) hv
 refine CallsIn.calls (h.mono ?_) (fun _=>by intro d hd;cases hd)
 rintro e w' ⟨v,x,c',h',rfl,rfl,hx,_,E,_,_,rfl⟩
 simp only[VR] at hx
 subst hx
 exact ⟨rfl,⟨E.os,E.tape,E.out,E.size,fun k hk=>E.keep k hk (by rintro (⟨a,q,h1,_⟩|⟨r,h1⟩) <;> cases h1)⟩⟩
end Go.Av
namespace Go.Av
open Go.WideShapes Go.ChangeShapes Go.RowKit
variable {P:Program} {w:World}
def LawG (G:Nat→Option (List AV)) (P:Program) (f:FuncId) (args:List AV):Prop:=∀ h,h.gl=G→ACalls P f args h (fun v _=>v=.bool true)
theorem LawG.walk {f:FuncId} {args:List AV} {xs:List Value} {G:Nat→Option (List AV)} (H:LawG G P f args) (hG:GL (c00 w) G) (hv:VRs (c00 w) args xs) :
  Calls P f xs.toArray w (fun e w'=>e=.returned (.bool true)∧Below w.heap.size w w'):=by
 have h:=(H (h00g G) rfl).2 (c00 w) xs (h00g_rel hG) hv
 refine CallsIn.calls (h.mono ?_) (fun _=>by intro d hd;cases hd)
 rintro e w' ⟨v,x,c',h',rfl,rfl,hx,_,E,_,rfl⟩
 simp only[VR] at hx
 subst hx
 exact ⟨rfl,⟨E.os,E.tape,E.out,E.size,fun k hk=>E.keep k hk (by rintro (⟨a,q,h1,_⟩|⟨r,h1⟩) <;> cases h1)⟩⟩
theorem PureG.law {f:FuncId} {args:List AV} {G:Nat→Option (List AV)} (H:PureG G P f args (fun v=>v=.bool true)):LawG G P f args:=fun h hg=>(H h hg).mono fun _ _ q=>q.2
end Go.Av
namespace Go.Av
variable {P:Program} {tt:Nat→TI} {fi:FI} {k0:Nat} {ops:Array Oper} {K:AS→Prop} {T:Nat→AV} {B:Bid→Option (List AV)} {M:List Nat} {H:AH}
theorem ASem.cutXg {r:Option Nat} {n:Nat} {code:Code} {Q:Exit→AS→Prop} {T:Nat→AV} {B:Bid→Option (List AV)} {M:List Nat} {H:AH} (id:Bid) (W:Bid→Prop) {cs cs':List AV} (h0:B id=some cs)
  (hd:(VLes cs cs'∧(cs.all AV.cell=true→cs'.all AV.cell=true)) ∨ ∃ b k,H.at_ b=some k∧cs'=frzs b k cs∧W b)
  (h:∀ H',(∀ b',¬ W b'→H'.at_ b'=H.at_ b')→H'.clk=H.clk→H'.lp=H.lp→H'.gl=H.gl→ASem P r n code Q ⟨T,upd B id (some cs'),M,H'⟩):ASem P r n code Q ⟨T,B,M,H⟩:=by
 rcases hd with ⟨h1,h2⟩|⟨b,k,hb,rfl,hw⟩
 ·refine ASem.leBx (fun i ds hds=>?_) (h H (fun _ _=>rfl) rfl rfl rfl)
  by_cases e:i=id
  ·subst e
   rw [upd_same] at hds
   cases hds
   exact ⟨cs,h0,h1,h2⟩
  ·rw [upd_ne _ _ e] at hds
   exact ⟨ds,hds,VLes.refl ds,fun h=>h⟩
 ·refine ASem.frzC (T':=T) (B':=upd B id (some (frzs b k cs))) hb (fun _=>.inl rfl) (fun i ds hds=>?_) (h _ (fun b' hb'=>?_) rfl rfl rfl)
  ·by_cases e:i=id
   ·subst e
    rw [upd_same] at hds
    cases hds
    exact ⟨cs,h0,.inr rfl⟩
   ·rw [upd_ne _ _ e] at hds
    exact ⟨ds,hds,.inl rfl⟩
  ·exact upd_ne _ _ (fun e=>hb' (by rw [e];exact hw))
theorem AppA.fresh {h0 k0 d z n:Nat} {H G:AH} {v v':AV} {l:List (List AV)} (hA:AppA h0 k0 d H v z n l v' G):SlA k0 (G.tick n) v' z l:=by
 rcases hA.sl with h|⟨bb,e,q1,q2,q3⟩
 ·exact .inl h
 ·rcases hA.new with e2|e2
  ·rw [e] at e2;cases e2
  ·rw [e] at e2
   injection e2 with e3
   exact .inr ⟨bb,e,q1,by rw [e3];exact Nat.le_refl _,q3⟩
end Go.Av
namespace Go.Av
theorem Lm {α β : Type} {l : List α} (f : α → β) : (l.map f).length = l.length := List.length_map f
end Go.Av
