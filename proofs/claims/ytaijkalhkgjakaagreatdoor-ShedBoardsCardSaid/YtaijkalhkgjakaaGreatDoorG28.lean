/- Contracts of functions that the claim reaches: what each call gives, told in our own logic. Conditions: those of each theorem. -/
import Derived.Test.YtaijkalhkgjakaaGreatDoorG17
import Derived.Test.YtaijkalhkgjakaaGreatDoorP2
import Derived.Test.YtaijkalhkgjakaaGreatDoorBaseC
import Derived.Test.YtaijkalhkgjakaaGreatDoorQ27
open List (length_map)
set_option linter.all false
set_option linter.unusedSimpArgs false
set_option linter.unusedVariables false
namespace Go.Proofs.YtaijkalhkgjakaaGreatDoor
open Go.Av
attribute [local irreducible] thenA blockA awp awpOps awpD awp1
attribute [local go_sem_proc] Nat.reduceAdd Nat.reduceMul Nat.reduceEqDiff Nat.reduceBEq Nat.reduceLeDiff
attribute [local go_sem_proc ↓] reduceIte
attribute [local go_sem] if_yes if_no
set_option maxHeartbeats 8000000
set_option maxRecDepth 20000
theorem c9 (l:List Int) (hl:(l.length:Int)≤9223372036854775807) (h:AH):ACalls Tryz.prog 9 [.lst 1 (l.map iv)] h (fun v h'=>∃ b x n,v=.ptr b 0 0∧h.clk≤b.1∧b.1 < n∧isU64 x∧h'=(h.tick n).put b (dr x)):=by
 refine ACalls.of tab mixed Tryz.call9 Tryz.func9 rfl (fi:=⟨29,[],[],none,[(5,[0,0,2,6,14,0,0,96,224,480,1022,2047,4095,8191],[(0,false),(1,false),(2,false),(3,false),(4,false),(5,false),(6,false),(7,false),(8,true),(9,false),(10,false),(11,false),(12,false),(13,false)])]⟩) rfl rfl (Nat.le_of_ble_eq_true rfl) (by decide) ?_
 unfold startA
 repeat' (first|refine st_seq_reg rfl (by first|(simp only[go_sem];rfl)|rfl) (by first|(simp only[go_sem];rfl)|rfl) ?_|refine st_op ?_|refine st_det rfl (by simp (disch:=omega) only[go_sem,wr_i64];rfl) ?_|refine st_heap rfl (by simp (disch:=omega) only[go_sem,wr_i64];rfl) ?_|refine st_nil ?_|refine st_seq ?_|refine st_block ?_)
 refine st_loopH (α:=Nat × Int) tab mixed [] [] (by repeat (first|exact trivial|refine ⟨rfl,?_⟩)) [] [] (by repeat (first|exact trivial|refine ⟨rfl,?_⟩)) (fun a=>[(4,.int .i64 a.1)]) [(0,_),(2,_),(3,_)] (fun _=>[]) [] (fun a=>(h.tick (h.clk+1+1+1)).put (h.clk+1,6) (dr a.2)) (fun a=>a.1≤l.length∧isU64 a.2) (fun a=>l.length - a.1) (by decide) (0,2685821657736338717) ⟨by omega,by unfold isU64;omega⟩ (by (try simp only[go_sem]);repeat' (first|exact trivial|refine And.intro ?_ ?_|rfl|(simp (disch:=omega) only[go_sem,if_yes,if_no,if_no];rfl)|(simp (disch:=omega) only[go_sem,if_yes,if_no,if_no]))) (by (try simp only[go_sem]);repeat' (first|exact trivial|refine And.intro ?_ ?_|rfl|(simp (disch:=omega) only[go_sem,if_yes,if_no,if_no];rfl)|(simp (disch:=omega) only[go_sem,if_yes,if_no,if_no]))) (HOld.refl _) ?_
 rintro ⟨i,x⟩ c ⟨hi',hx⟩ hc
 simp only[go_sem] at hc
 simp only[go_sem,dr]
 repeat' (first|refine st_seq_reg rfl (by first|(simp only[go_sem];rfl)|rfl) (by first|(simp only[go_sem];rfl)|rfl) ?_|refine st_reg rfl (by first|(simp only[go_sem];rfl)|rfl) (by first|(simp only[go_sem];rfl)|rfl) ?_|refine st_seq_draw rfl (by first|(simp only[go_sem];rfl)|rfl) (by first|(simp only[go_sem];rfl)|rfl) ?_|refine st_op ?_|(refine st_u64 rfl (by simp (disch:=omega) only[go_sem,wr_i64];rfl) (by first|exact wr_u64 _|exact xor_u64 _ _) ?_;intro y hy)|refine st_det rfl (by simp (disch:=omega) only[go_sem,wr_i64];rfl) ?_|refine st_dop rfl ?_|refine st_store (by simp (disch:=omega) only[go_sem,wr_i64];rfl) ?_|(refine st_drum (by first|(simp (disch:=omega) only[go_sem];rfl)|rfl) rfl (c44 _) (by first|(simp (disch:=omega) only[go_sem];rfl)|rfl|exact put_same _ _ _) (by assumption) (by first|(simp only[go_sem];rfl)|rfl) (by intro x' n;first|(simp (disch:=omega) only[go_sem];rfl)|rfl) ?_;rintro v x' n hu' ⟨w,hw,rfl⟩ hn)|(refine st_condS rfl ?_ ?_ <;> intro hg <;> (try simp only[dcT,dcF,bnT,bnF] at hg))|refine st_nil ?_|refine st_dnil ?_|refine st_tN ?_|refine st_seq ?_|refine st_block ?_|refine st_skip ?_|refine st_exit ?_|refine st_ret ?_|refine st_tE ?_|refine st_bN ?_|refine st_bH ?_)
 ·refine ⟨(i+1,x'),⟨by omega,by assumption⟩,by omega,(by repeat' (first|exact trivial|refine And.intro ?_ ?_|rfl|(simp (disch:=omega) only[go_sem,if_yes,if_no,if_no];rfl)|(simp (disch:=omega) only[go_sem,if_yes,if_no,if_no]))),(by repeat' (first|exact trivial|refine And.intro ?_ ?_|rfl|(simp (disch:=omega) only[go_sem,if_yes,if_no,if_no];rfl)|(simp (disch:=omega) only[go_sem,if_yes,if_no,if_no]))),rfl,HOld.put _ _ _ (by omega)⟩
 ·simp (disch:=omega) only[AEnd,Tryz.results9,aresK,fin,go_sem,implies_true,true_and,and_true,List.reverse_cons,List.reverse_nil]
  exact ⟨_,x,_,rfl,by omega,by omega,hx,rfl⟩
theorem c48' (b:Nat × Nat) (lo hi:Int) (h1:-1000000000≤lo∧lo≤1000000000) (h2:lo≤hi∧hi - lo < 1000000000):Drum Tryz.prog 48 [.ptr b 0 0,.int .i64 lo,.int .i64 hi] b (fun v=>∃ r,v=.int .i64 r∧lo≤r∧r≤hi):=by
 intro h x hx hu
 refine (c48 b lo hi h1 (by omega) h x hx hu).mono ?_
 rintro v h' ⟨x',n,h1,h2,h3,r,h4,h5,h6⟩
 exact ⟨x',n,h1,h2,h3,r,h4,h5,by omega⟩
theorem c45' (b:Nat × Nat) (N:Int) (hN:1≤N∧N≤1000000000):Drum Tryz.prog 45 [.ptr b 0 0,.int .i64 N] b (fun v=>∃ r,v=.int .i64 r∧0≤r∧r < N):=by
 intro h x hx hu
 refine (c45 b N hN.2 h x hx hu).mono ?_
 rintro v h' ⟨x',n,h1,h2,h3,r,h4,h5,h6⟩
 exact ⟨x',n,h1,h2,h3,r,h4,h5,by omega⟩
structure LdGood (f:Fl) (x:Ld):Prop where
 at_:f.front≤x.at_∧x.at_≤f.rear
 kilos:0≤x.lo∧x.lo≤x.hi∧x.hi≤900
 top:0≤x.tlo∧x.tlo≤x.thi∧x.thi≤700
 kind:1≤x.kind∧x.kind≤4
 watts:0≤x.watts∧x.watts < 3000∧(x.kind=2 ∨ x.kind=3 ∨ x.watts=0)
structure FlGood (f:Fl) (n:Int):Prop where
 len:2≤f.len∧f.len≤1200
 wid:1≤f.wid∧f.wid≤400
 axles:0≤f.front∧f.front < f.rear∧f.rear≤f.len
 turn:0≤f.turn∧f.turn < 1500
 kilos:0≤f.kilos∧f.kilos < 5000
 mid:0≤f.mid∧f.mid≤f.len
 high:0≤f.high∧f.high < 500
 many:(f.loads.length:Int)≤n
 loads:∀ x ∈ f.loads,LdGood f x
structure FS where
 i:Int
 x:Int
 t:Nat
 bb:Nat × Nat
 ls:List Ld
def FS.sl (a:FS):AV:=if a.ls=[] then .nils else .slc a.bb 7 0 a.ls.length
def FS.hp (h:AH) (b:Nat × Nat) (a:FS):AH:=if a.ls=[] then (h.tick a.t).put b (dr a.x) else ((h.tick a.t).put a.bb (some ⟨7,a.ls.map Ld.row⟩)).put b (dr a.x)
@[go_sem] theorem FS.sl_nil (i x:Int) (t:Nat) (bb:Nat × Nat):FS.sl ⟨i,x,t,bb,[]⟩=.nils:=rfl
@[go_sem] theorem FS.sl_app (i x:Int) (t:Nat) (bb:Nat × Nat) (l:List Ld) (y:Ld):FS.sl ⟨i,x,t,bb,l ++ [y]⟩=.slc bb 7 0 (l.length+1):=by simp [FS.sl]
@[go_sem] theorem FS.sl_one (i x:Int) (t:Nat) (bb:Nat × Nat) (y:Ld):FS.sl ⟨i,x,t,bb,[y]⟩=.slc bb 7 0 1:=by simp [FS.sl]
theorem hold1 {h:AH} {m m':Nat} {id b:Nat × Nat} {k d:Option Blk} (hn:m≤m') (hne:¬ id=b):HOld (((h.tick m).put id k).put b d) (((h.tick m').put b d).put id k):=by
 refine ⟨fun z k' hz=>?_,fun _ _ e=>e,hn,rfl⟩
 simp only[AH.put,upd_apply,AH.tick] at hz ⊢
 by_cases e:z=id
 ·subst e;simpa [hne] using hz
 ·simpa [e] using hz
theorem hold2 {h:AH} {m m':Nat} {id bb b:Nat × Nat} {k k0 k1 d:Option Blk} (hn:m≤m') (hk:k=k1) (hne:¬ id=b) (hbb:h.at_ bb=none) (hb:¬ bb=b):HOld (((h.tick m).put id k).put b d) (((((h.tick m').put bb k0).put b d).put bb none).put id k1):=by
 subst hk
 refine ⟨fun z k' hz=>?_,fun _ _ e=>e,hn,rfl⟩
 simp only[AH.put,upd_apply,AH.tick] at hz ⊢
 by_cases e:z=id
 ·subst e;simpa [hne] using hz
 ·by_cases e2:z=bb
  ·subst e2
   simp [e,hb,hbb] at hz
  ·simpa [e,e2] using hz
theorem c46 (b:Nat × Nat) (N:Int) (hN:0≤N∧N≤20):Drum Tryz.prog 46 [.ptr b 0 0,.int .i64 N] b (fun v=>∃ f,v=Fl.av f∧FlGood f N):=by
 refine Drum.give Tryz.call46 fun h x hx hu hold=>ACalls.old Tryz.call46 fun hall=>?_
 refine ACalls.of tab mixed Tryz.call46 Tryz.func46 rfl (fi:=⟨91,[4,5,7],[10,18,23,62,67,87],none,[]⟩) rfl rfl (Nat.le_of_ble_eq_true rfl) (by decide) ?_
 unfold startA
 repeat' (first|refine st_seq_reg rfl (by first|(simp only[go_sem,hx];rfl)|rfl) (by first|(simp only[go_sem,hx];rfl)|rfl) ?_|refine st_op ?_|refine st_det rfl (by simp (disch:=omega) only[go_sem,wr_i64,hx];rfl) ?_|refine st_loc rfl (by simp (disch:=omega) only[go_sem,wr_i64,hx];rfl) ?_|refine st_store (by simp (disch:=omega) only[go_sem,wr_i64,hx];rfl) ?_|(refine st_drum (by first|(simp (disch:=omega) only[go_sem,hx];rfl)|rfl) rfl (c50b b _ _) (by first|(simp (disch:=omega) only[go_sem,hx];rfl)|rfl|exact put_same _ _ _) (by assumption) (by first|(simp only[go_sem,hx];rfl)|rfl) (by intro x' n;first|(simp (disch:=omega) only[go_sem];rfl)|rfl) ?_;rintro v x' n hu' ⟨r,rfl,hr⟩ hn)|(refine st_drum (by first|(simp (disch:=omega) only[go_sem,hx];rfl)|rfl) rfl (c45' b _ (by omega)) (by first|(simp (disch:=omega) only[go_sem,hx];rfl)|rfl|exact put_same _ _ _) (by assumption) (by first|(simp only[go_sem,hx];rfl)|rfl) (by intro x' n;first|(simp (disch:=omega) only[go_sem];rfl)|rfl) ?_;rintro v x' n hu' ⟨r,rfl,hr⟩ hn)|(refine st_drum (by first|(simp (disch:=omega) only[go_sem,hx];rfl)|rfl) rfl (c48' b _ _ (by omega) (by omega)) (by first|(simp (disch:=omega) only[go_sem,hx];rfl)|rfl|exact put_same _ _ _) (by assumption) (by first|(simp only[go_sem,hx];rfl)|rfl) (by intro x' n;first|(simp (disch:=omega) only[go_sem];rfl)|rfl) ?_;rintro v x' n hu' ⟨r,rfl,hr⟩ hn)|refine st_nil ?_|refine st_seq ?_|refine st_block ?_)
 rename_i x1 n1 u1 r1 h1 m1 x2 n2 u2 r2 h2 m2 x3 n3 u3 r3 h3 m3 x4 n4 u4 r4 h4 m4 x5 n5 u5 r5 h5 m5 x6 n6 u6 r6 h6 m6 x7 n7 u7 r7 h7 m7 x8 n8 u8 r8 h8 m8 x9 n9 u9 r9 h9 m9 x10 n10 u10 r10 h10 m10 x11 n11 u11 r11 h11 m11
 let f0:Fl:=⟨r2,r3,r9,r10,r5,r7,r11,r8,[]⟩
 refine st_loopH (α:=FS) tab mixed [5] [_] (by repeat (first|exact trivial|refine ⟨rfl,?_⟩)) [4] [_] (by repeat (first|exact trivial|refine ⟨rfl,?_⟩)) (fun a=>[(6,.int .i64 a.i)]) [(0,_),(4,_),(5,_)] (fun a=>[[.int .i64 r2,.int .i64 r3,.int .i64 r9,.int .i64 r10,.int .i64 r5,.int .i64 r7,.int .i64 r11,.int .i64 r8,a.sl]]) [_] (FS.hp h b) (fun a=>0≤a.i∧a.ls.length+a.i≤N∧n≤a.t∧isU64 a.x∧(∀ y ∈ a.ls,LdGood f0 y)∧(a.ls ≠ []→h.clk≤a.bb.1∧a.bb.1 < a.t)) (fun a=>a.i.toNat) (by decide) ⟨r,x',n,(0,0),[]⟩ ⟨hr.1,by simp;omega,Nat.le_refl _,hu',by simp,by simp⟩ (by (try simp only[go_sem]);repeat' (first|exact trivial|refine And.intro ?_ ?_|rfl|(simp (disch:=omega) only[go_sem,if_yes,if_no,if_no];rfl)|(simp (disch:=omega) only[go_sem,if_yes,if_no,if_no]))) (by (try simp only[go_sem]);repeat' (first|exact trivial|refine And.intro ?_ ?_|rfl|(simp (disch:=omega) only[go_sem,if_yes,if_no,if_no];rfl)|(simp (disch:=omega) only[go_sem,if_yes,if_no,if_no]))) (HOld.refl _) ?_
 rintro a c ⟨i1,i2,i3,i4,i5,i6⟩ hc
 have hb0:∀ z t,h.clk≤z→¬ ((z,t):Nat × Nat)=b:=fun z t hz e=>by rw [← e] at hold;exact absurd hold (by show ¬ z < h.clk;omega)
 by_cases e:a.ls=[]
 ·have e1:a.sl=.nils:=if_pos e
  have e2:a.hp h b=(h.tick a.t).put b (dr a.x):=if_pos e
  rw [e2] at hc
  simp only[go_sem] at hc
  simp only[e1,e2,go_sem]
  repeat' (first|refine st_seq_reg rfl (by first|(simp only[go_sem];rfl)|rfl) (by first|(simp only[go_sem];rfl)|rfl) ?_|refine st_reg rfl (by first|(simp only[go_sem];rfl)|rfl) (by first|(simp only[go_sem];rfl)|rfl) ?_|refine st_op ?_|refine st_det rfl (by simp (disch:=omega) only[go_sem,wr_i64];rfl) ?_|refine st_loc rfl (by simp (disch:=omega) only[go_sem,wr_i64];rfl) ?_|refine st_store (by simp (disch:=omega) only[go_sem,wr_i64];rfl) ?_|refine st_append (by simp (disch:=omega) only[go_sem,wr_i64];rfl) ?_|(refine st_drum (by first|(simp (disch:=omega) only[go_sem];rfl)|rfl) rfl (c50b b _ _) (by first|(simp (disch:=omega) only[go_sem];rfl)|rfl|exact put_same _ _ _) (by assumption) (by first|(simp only[go_sem];rfl)|rfl) (by intro x' n;first|(simp (disch:=omega) only[go_sem];rfl)|rfl) ?_;rintro v x' n hu' ⟨r,rfl,hr⟩ hn)|(refine st_drum (by first|(simp (disch:=omega) only[go_sem];rfl)|rfl) rfl (c45' b _ (by omega)) (by first|(simp (disch:=omega) only[go_sem];rfl)|rfl|exact put_same _ _ _) (by assumption) (by first|(simp only[go_sem];rfl)|rfl) (by intro x' n;first|(simp (disch:=omega) only[go_sem];rfl)|rfl) ?_;rintro v x' n hu' ⟨r,rfl,hr⟩ hn)|(refine st_drum (by first|(simp (disch:=omega) only[go_sem];rfl)|rfl) rfl (c48' b _ _ (by omega) (by omega)) (by first|(simp (disch:=omega) only[go_sem];rfl)|rfl|exact put_same _ _ _) (by assumption) (by first|(simp only[go_sem];rfl)|rfl) (by intro x' n;first|(simp (disch:=omega) only[go_sem];rfl)|rfl) ?_;rintro v x' n hu' ⟨r,rfl,hr⟩ hn)|(refine st_drum (by first|(simp (disch:=omega) only[go_sem];rfl)|rfl) rfl (c49 b _ _ (by omega) (by omega) (by omega)) (by first|(simp (disch:=omega) only[go_sem];rfl)|rfl|exact put_same _ _ _) (by assumption) (by first|(simp only[go_sem];rfl)|rfl) (by intro x' n;first|(simp (disch:=omega) only[go_sem];rfl)|rfl) ?_;rintro v x' n hu' ⟨r,q,rfl,hr⟩ hn)|refine st_gT rfl rfl rfl ?_|refine st_gF rfl rfl rfl ?_|(refine st_gS rfl rfl ?_ ?_ <;> intro hg <;> (try simp only[dcT,dcF,bnT,bnF] at hg))|refine st_condT rfl ?_|(refine st_condS rfl ?_ ?_ <;> intro hg <;> (try simp only[dcT,dcF,bnT,bnF] at hg))|refine st_nil ?_|refine st_tN ?_|refine st_seq ?_|refine st_block ?_|refine st_skip ?_|refine st_exit ?_|refine st_ret ?_|refine st_tE ?_|refine st_bN ?_|refine st_bH ?_)
  ·rename_i xa na ua ra ha ma xb nb ub rb hb' mb xc nc uc rc qc hc' mc xd nd ud rd hd md xe ne ue re he me xf nf uf rf hf mf
   have hgood:∀ y ∈ a.ls ++ [(⟨ra,rc,qc,re,q,rf,r⟩:Ld)],LdGood f0 y:=by
    intro y hy
    rcases List.mem_append.1 hy with hy|hy
    ·exact i5 y hy
    ·rw [List.mem_singleton.1 hy]
     exact ⟨⟨by show r9≤ra;omega,by show ra≤r10;omega⟩,⟨by show 0≤rc;omega,by show rc≤qc;omega,by show qc≤900;omega⟩,⟨by show 0≤re;omega,by show re≤q;omega,by show q≤700;omega⟩,⟨by show 1≤rf;omega,by show rf≤4;omega⟩,⟨by show 0≤r;omega,by show r < 3000;omega,by show rf=2 ∨ rf=3 ∨ r=0;omega⟩⟩
   refine ⟨⟨a.i - 1,x',n+1+1,(n,88),a.ls ++ [⟨ra,rc,qc,re,q,rf,r⟩]⟩,⟨by show 0≤a.i - 1;omega,by simp;omega,by show _≤n+1+1;omega,hu',hgood,fun _=>⟨by show h.clk≤n;omega,by show n < n+1+1;omega⟩⟩,by show (a.i - 1).toNat < a.i.toNat;omega,(by (try (try simp only[e,nil_app,go_sem]));repeat' (first|exact trivial|refine And.intro ?_ ?_|rfl|(simp (disch:=omega) only[go_sem,if_yes,if_no,if_no];rfl)|(simp (disch:=omega) only[go_sem,if_yes,if_no,if_no]))),(by (try (try simp only[e,nil_app,go_sem]));repeat' (first|exact trivial|refine And.intro ?_ ?_|rfl|(simp (disch:=omega) only[go_sem,if_yes,if_no,if_no];rfl)|(simp (disch:=omega) only[go_sem,if_yes,if_no,if_no]))),rfl,by rw [FS.hp,if_neg (by simp)];simp only[e];exact hold1 (by omega) (hb0 _ _ (by omega))⟩
  ·rename_i xa na ua ra ha ma xb nb ub rb hb' mb xc nc uc rc qc hc' mc xd nd ud rd hd md xe ne ue re he me xf nf uf rf hf mf hgA
   have hgood:∀ y ∈ a.ls ++ [(⟨ra,rc,qc,re,q,rf,r⟩:Ld)],LdGood f0 y:=by
    intro y hy
    rcases List.mem_append.1 hy with hy|hy
    ·exact i5 y hy
    ·rw [List.mem_singleton.1 hy]
     exact ⟨⟨by show r9≤ra;omega,by show ra≤r10;omega⟩,⟨by show 0≤rc;omega,by show rc≤qc;omega,by show qc≤900;omega⟩,⟨by show 0≤re;omega,by show re≤q;omega,by show q≤700;omega⟩,⟨by show 1≤rf;omega,by show rf≤4;omega⟩,⟨by show 0≤r;omega,by show r < 3000;omega,by show rf=2 ∨ rf=3 ∨ r=0;omega⟩⟩
   refine ⟨⟨a.i - 1,x',n+1+1,(n,88),a.ls ++ [⟨ra,rc,qc,re,q,rf,r⟩]⟩,⟨by show 0≤a.i - 1;omega,by simp;omega,by show _≤n+1+1;omega,hu',hgood,fun _=>⟨by show h.clk≤n;omega,by show n < n+1+1;omega⟩⟩,by show (a.i - 1).toNat < a.i.toNat;omega,(by (try (try simp only[e,nil_app,go_sem]));repeat' (first|exact trivial|refine And.intro ?_ ?_|rfl|(simp (disch:=omega) only[go_sem,if_yes,if_no,if_no];rfl)|(simp (disch:=omega) only[go_sem,if_yes,if_no,if_no]))),(by (try (try simp only[e,nil_app,go_sem]));repeat' (first|exact trivial|refine And.intro ?_ ?_|rfl|(simp (disch:=omega) only[go_sem,if_yes,if_no,if_no];rfl)|(simp (disch:=omega) only[go_sem,if_yes,if_no,if_no]))),rfl,by rw [FS.hp,if_neg (by simp)];simp only[e];exact hold1 (by omega) (hb0 _ _ (by omega))⟩
  ·rename_i xa na ua ra ha ma xb nb ub rb hb' mb xc nc uc rc qc hc' mc xd nd ud rd hd md xe ne ue re he me hgA
   have hgood:∀ y ∈ a.ls ++ [(⟨ra,rc,qc,re,q,r,0⟩:Ld)],LdGood f0 y:=by
    intro y hy
    rcases List.mem_append.1 hy with hy|hy
    ·exact i5 y hy
    ·rw [List.mem_singleton.1 hy]
     exact ⟨⟨by show r9≤ra;omega,by show ra≤r10;omega⟩,⟨by show 0≤rc;omega,by show rc≤qc;omega,by show qc≤900;omega⟩,⟨by show 0≤re;omega,by show re≤q;omega,by show q≤700;omega⟩,⟨by show 1≤r;omega,by show r≤4;omega⟩,⟨by show 0≤0;omega,by show 0 < 3000;omega,by show r=2 ∨ r=3 ∨ 0=0;omega⟩⟩
   refine ⟨⟨a.i - 1,x',n+1+1+1,(n+1,88),a.ls ++ [⟨ra,rc,qc,re,q,r,0⟩]⟩,⟨by show 0≤a.i - 1;omega,by simp;omega,by show _≤n+1+1+1;omega,hu',hgood,fun _=>⟨by show h.clk≤n+1;omega,by show n+1 < n+1+1+1;omega⟩⟩,by show (a.i - 1).toNat < a.i.toNat;omega,(by (try (try simp only[e,nil_app,go_sem]));repeat' (first|exact trivial|refine And.intro ?_ ?_|rfl|(simp (disch:=omega) only[go_sem,if_yes,if_no,if_no];rfl)|(simp (disch:=omega) only[go_sem,if_yes,if_no,if_no]))),(by (try (try simp only[e,nil_app,go_sem]));repeat' (first|exact trivial|refine And.intro ?_ ?_|rfl|(simp (disch:=omega) only[go_sem,if_yes,if_no,if_no];rfl)|(simp (disch:=omega) only[go_sem,if_yes,if_no,if_no]))),rfl,by rw [FS.hp,if_neg (by simp)];simp only[e];exact hold1 (by omega) (hb0 _ _ (by omega))⟩
  ·simp (disch:=omega) only[AEnd,Tryz.results46,aresK,fin,go_sem,implies_true,true_and,and_true,List.reverse_cons,List.reverse_nil]
   refine ⟨fun b' _ h2=>if_neg h2,⟨_,rfl,i4⟩,.inl ⟨Fl.av ⟨r2,r3,r9,r10,r5,r7,r11,r8,[]⟩,VLe.agg ?_ rfl,_,rfl,?_⟩⟩
   ·simp only[VLes]
    repeat (refine ⟨_,_,rfl,VLe.refl _,?_⟩)
    exact ⟨_,_,rfl,VLe.nils 7,rfl⟩
   ·exact ⟨⟨by show 2≤r2;omega,by show r2≤1200;omega⟩,⟨by show 1≤r3;omega,by show r3≤400;omega⟩,⟨by show 0≤r9;omega,by show r9 < r10;omega,by show r10≤r2;omega⟩,⟨by show 0≤r5;omega,by show r5 < 1500;omega⟩,⟨by show 0≤r7;omega,by show r7 < 5000;omega⟩,⟨by show 0≤r11;omega,by show r11≤r2;omega⟩,⟨by show 0≤r8;omega,by show r8 < 500;omega⟩,by simp;omega,fun y hy=>by cases hy⟩
 ·have e1:a.sl=.slc a.bb 7 0 a.ls.length:=if_neg e
  have e2:a.hp h b=((h.tick a.t).put a.bb (some ⟨7,a.ls.map Ld.row⟩)).put b (dr a.x):=if_neg e
  have e6:=i6 e
  have hbb:¬ a.bb=b:=fun e'=>by rw [e'] at e6;omega
  have hbn:h.at_ a.bb=none:=by
   cases e':h.at_ a.bb with
   | none=>rfl
   | some k=>exact absurd (hall _ _ e') (by omega)
  rw [e2] at hc
  simp only[go_sem] at hc
  simp only[e1,e2,go_sem]
  repeat' (first|refine st_seq_reg rfl (by first|(simp only[go_sem,hbb,big,length_map];rfl)|rfl) (by first|(simp only[go_sem,hbb,big,length_map];rfl)|rfl) ?_|refine st_reg rfl (by first|(simp only[go_sem,hbb,big,length_map];rfl)|rfl) (by first|(simp only[go_sem,hbb,big,length_map];rfl)|rfl) ?_|refine st_op ?_|refine st_det rfl (by simp (disch:=omega) only[go_sem,wr_i64,hbb,big,length_map];rfl) ?_|refine st_loc rfl (by simp (disch:=omega) only[go_sem,wr_i64,hbb,big,length_map];rfl) ?_|refine st_store (by simp (disch:=omega) only[go_sem,wr_i64,hbb,big,length_map];rfl) ?_|refine st_append (by simp (disch:=omega) only[go_sem,wr_i64,hbb,big,length_map];rfl) ?_|(refine st_drum (by first|(simp (disch:=omega) only[go_sem,hbb,big,length_map];rfl)|rfl) rfl (c50b b _ _) (by first|(simp (disch:=omega) only[go_sem,hbb,big,length_map];rfl)|rfl|exact put_same _ _ _) (by assumption) (by first|(simp only[go_sem,hbb,big,length_map];rfl)|rfl) (by intro x' n;first|(simp (disch:=omega) only[go_sem];rfl)|rfl) ?_;rintro v x' n hu' ⟨r,rfl,hr⟩ hn)|(refine st_drum (by first|(simp (disch:=omega) only[go_sem,hbb,big,length_map];rfl)|rfl) rfl (c45' b _ (by omega)) (by first|(simp (disch:=omega) only[go_sem,hbb,big,length_map];rfl)|rfl|exact put_same _ _ _) (by assumption) (by first|(simp only[go_sem,hbb,big,length_map];rfl)|rfl) (by intro x' n;first|(simp (disch:=omega) only[go_sem];rfl)|rfl) ?_;rintro v x' n hu' ⟨r,rfl,hr⟩ hn)|(refine st_drum (by first|(simp (disch:=omega) only[go_sem,hbb,big,length_map];rfl)|rfl) rfl (c48' b _ _ (by omega) (by omega)) (by first|(simp (disch:=omega) only[go_sem,hbb,big,length_map];rfl)|rfl|exact put_same _ _ _) (by assumption) (by first|(simp only[go_sem,hbb,big,length_map];rfl)|rfl) (by intro x' n;first|(simp (disch:=omega) only[go_sem];rfl)|rfl) ?_;rintro v x' n hu' ⟨r,rfl,hr⟩ hn)|(refine st_drum (by first|(simp (disch:=omega) only[go_sem,hbb,big,length_map];rfl)|rfl) rfl (c49 b _ _ (by omega) (by omega) (by omega)) (by first|(simp (disch:=omega) only[go_sem,hbb,big,length_map];rfl)|rfl|exact put_same _ _ _) (by assumption) (by first|(simp only[go_sem,hbb,big,length_map];rfl)|rfl) (by intro x' n;first|(simp (disch:=omega) only[go_sem];rfl)|rfl) ?_;rintro v x' n hu' ⟨r,q,rfl,hr⟩ hn)|refine st_gT rfl rfl rfl ?_|refine st_gF rfl rfl rfl ?_|(refine st_gS rfl rfl ?_ ?_ <;> intro hg <;> (try simp only[dcT,dcF,bnT,bnF] at hg))|refine st_condT rfl ?_|(refine st_condS rfl ?_ ?_ <;> intro hg <;> (try simp only[dcT,dcF,bnT,bnF] at hg))|refine st_nil ?_|refine st_tN ?_|refine st_seq ?_|refine st_block ?_|refine st_skip ?_|refine st_exit ?_|refine st_ret ?_|refine st_tE ?_|refine st_bN ?_|refine st_bH ?_)
  ·rename_i xa na ua ra ha ma xb nb ub rb hb' mb xc nc uc rc qc hc' mc xd nd ud rd hd md xe ne ue re he me xf nf uf rf hf mf
   have hgood:∀ y ∈ a.ls ++ [(⟨ra,rc,qc,re,q,rf,r⟩:Ld)],LdGood f0 y:=by
    intro y hy
    rcases List.mem_append.1 hy with hy|hy
    ·exact i5 y hy
    ·rw [List.mem_singleton.1 hy]
     exact ⟨⟨by show r9≤ra;omega,by show ra≤r10;omega⟩,⟨by show 0≤rc;omega,by show rc≤qc;omega,by show qc≤900;omega⟩,⟨by show 0≤re;omega,by show re≤q;omega,by show q≤700;omega⟩,⟨by show 1≤rf;omega,by show rf≤4;omega⟩,⟨by show 0≤r;omega,by show r < 3000;omega,by show rf=2 ∨ rf=3 ∨ r=0;omega⟩⟩
   refine ⟨⟨a.i - 1,x',n+1+1,(n,88),a.ls ++ [⟨ra,rc,qc,re,q,rf,r⟩]⟩,⟨by show 0≤a.i - 1;omega,by simp;omega,by show _≤n+1+1;omega,hu',hgood,fun _=>⟨by show h.clk≤n;omega,by show n < n+1+1;omega⟩⟩,by show (a.i - 1).toNat < a.i.toNat;omega,(by (try (try simp only[go_sem]));repeat' (first|exact trivial|refine And.intro ?_ ?_|rfl|(simp (disch:=omega) only[go_sem,if_yes,if_no,if_no];rfl)|(simp (disch:=omega) only[go_sem,if_yes,if_no,if_no]))),(by (try (try simp only[go_sem]));repeat' (first|exact trivial|refine And.intro ?_ ?_|rfl|(simp (disch:=omega) only[go_sem,if_yes,if_no,if_no];rfl)|(simp (disch:=omega) only[go_sem,if_yes,if_no,if_no]))),rfl,by rw [FS.hp,if_neg (by simp)];exact hold2 (Nat.le_refl _) (by rw [List.map_append,List.take_of_length_le (by simp)];rfl) (hb0 _ _ (by omega)) hbn hbb⟩
  ·rename_i xa na ua ra ha ma xb nb ub rb hb' mb xc nc uc rc qc hc' mc xd nd ud rd hd md xe ne ue re he me xf nf uf rf hf mf hgA
   have hgood:∀ y ∈ a.ls ++ [(⟨ra,rc,qc,re,q,rf,r⟩:Ld)],LdGood f0 y:=by
    intro y hy
    rcases List.mem_append.1 hy with hy|hy
    ·exact i5 y hy
    ·rw [List.mem_singleton.1 hy]
     exact ⟨⟨by show r9≤ra;omega,by show ra≤r10;omega⟩,⟨by show 0≤rc;omega,by show rc≤qc;omega,by show qc≤900;omega⟩,⟨by show 0≤re;omega,by show re≤q;omega,by show q≤700;omega⟩,⟨by show 1≤rf;omega,by show rf≤4;omega⟩,⟨by show 0≤r;omega,by show r < 3000;omega,by show rf=2 ∨ rf=3 ∨ r=0;omega⟩⟩
   refine ⟨⟨a.i - 1,x',n+1+1,(n,88),a.ls ++ [⟨ra,rc,qc,re,q,rf,r⟩]⟩,⟨by show 0≤a.i - 1;omega,by simp;omega,by show _≤n+1+1;omega,hu',hgood,fun _=>⟨by show h.clk≤n;omega,by show n < n+1+1;omega⟩⟩,by show (a.i - 1).toNat < a.i.toNat;omega,(by (try (try simp only[go_sem]));repeat' (first|exact trivial|refine And.intro ?_ ?_|rfl|(simp (disch:=omega) only[go_sem,if_yes,if_no,if_no];rfl)|(simp (disch:=omega) only[go_sem,if_yes,if_no,if_no]))),(by (try (try simp only[go_sem]));repeat' (first|exact trivial|refine And.intro ?_ ?_|rfl|(simp (disch:=omega) only[go_sem,if_yes,if_no,if_no];rfl)|(simp (disch:=omega) only[go_sem,if_yes,if_no,if_no]))),rfl,by rw [FS.hp,if_neg (by simp)];exact hold2 (Nat.le_refl _) (by rw [List.map_append,List.take_of_length_le (by simp)];rfl) (hb0 _ _ (by omega)) hbn hbb⟩
  ·rename_i xa na ua ra ha ma xb nb ub rb hb' mb xc nc uc rc qc hc' mc xd nd ud rd hd md xe ne ue re he me hgA
   have hgood:∀ y ∈ a.ls ++ [(⟨ra,rc,qc,re,q,r,0⟩:Ld)],LdGood f0 y:=by
    intro y hy
    rcases List.mem_append.1 hy with hy|hy
    ·exact i5 y hy
    ·rw [List.mem_singleton.1 hy]
     exact ⟨⟨by show r9≤ra;omega,by show ra≤r10;omega⟩,⟨by show 0≤rc;omega,by show rc≤qc;omega,by show qc≤900;omega⟩,⟨by show 0≤re;omega,by show re≤q;omega,by show q≤700;omega⟩,⟨by show 1≤r;omega,by show r≤4;omega⟩,⟨by show 0≤0;omega,by show 0 < 3000;omega,by show r=2 ∨ r=3 ∨ 0=0;omega⟩⟩
   refine ⟨⟨a.i - 1,x',n+1+1+1,(n+1,88),a.ls ++ [⟨ra,rc,qc,re,q,r,0⟩]⟩,⟨by show 0≤a.i - 1;omega,by simp;omega,by show _≤n+1+1+1;omega,hu',hgood,fun _=>⟨by show h.clk≤n+1;omega,by show n+1 < n+1+1+1;omega⟩⟩,by show (a.i - 1).toNat < a.i.toNat;omega,(by (try (try simp only[go_sem]));repeat' (first|exact trivial|refine And.intro ?_ ?_|rfl|(simp (disch:=omega) only[go_sem,if_yes,if_no,if_no];rfl)|(simp (disch:=omega) only[go_sem,if_yes,if_no,if_no]))),(by (try (try simp only[go_sem]));repeat' (first|exact trivial|refine And.intro ?_ ?_|rfl|(simp (disch:=omega) only[go_sem,if_yes,if_no,if_no];rfl)|(simp (disch:=omega) only[go_sem,if_yes,if_no,if_no]))),rfl,by rw [FS.hp,if_neg (by simp)];exact hold2 (Nat.le_refl _) (by rw [List.map_append,List.take_of_length_le (by simp)];rfl) (hb0 _ _ (by omega)) hbn hbb⟩
  ·simp (disch:=omega) only[AEnd,Tryz.results46,aresK,fin,go_sem,implies_true,true_and,and_true,List.reverse_cons,List.reverse_nil]
   refine ⟨fun b' h1 h2=>?_,⟨_,rfl,i4⟩,.inr ⟨a.bb,⟨7,a.ls.map Ld.row⟩,e6.1,?_,⟨r2,r3,r9,r10,r5,r7,r11,r8,a.ls⟩,?_,?_⟩⟩
   ·rw [if_neg h2,if_neg (fun e'=>by rw [e'] at h1;omega)]
   ·simp [hbb]
   ·simp [frz,frzs,Fl.av,List.take_of_length_le]
   ·exact ⟨⟨by show 2≤r2;omega,by show r2≤1200;omega⟩,⟨by show 1≤r3;omega,by show r3≤400;omega⟩,⟨by show 0≤r9;omega,by show r9 < r10;omega,by show r10≤r2;omega⟩,⟨by show 0≤r5;omega,by show r5 < 1500;omega⟩,⟨by show 0≤r7;omega,by show r7 < 5000;omega⟩,⟨by show 0≤r11;omega,by show r11≤r2;omega⟩,⟨by show 0≤r8;omega,by show r8 < 500;omega⟩,by show (a.ls.length:Int)≤N;omega,fun y hy=>⟨(i5 y hy).at_,(i5 y hy).kilos,(i5 y hy).top,(i5 y hy).kind,(i5 y hy).watts⟩⟩
end Go.Proofs.YtaijkalhkgjakaaGreatDoor

namespace Go.Proofs.YtaijkalhkgjakaaGreatDoor
open Go.Av
attribute [local irreducible] thenA blockA awp awpOps awpD awp1
attribute [local go_sem_proc] Nat.reduceAdd Nat.reduceMul Nat.reduceEqDiff Nat.reduceBEq Nat.reduceLeDiff
attribute [local go_sem_proc ↓] reduceIte
attribute [local go_sem] if_yes if_no
set_option maxHeartbeats 8000000
set_option maxRecDepth 20000
theorem c47 (b:Nat × Nat) (N:Int) (hN:1≤N∧N≤1000000000):Drum Tryz.prog 47 [.ptr b 0 0,.int .i64 N] b (fun v=>∃ r:Bool,v=.bool r):=by
 refine Drum.of Tryz.call47 fun h x hx hu hold=>?_
 refine ACalls.of tab mixed Tryz.call47 Tryz.func47 rfl (fi:=⟨9,[],[],none,[]⟩) rfl rfl (Nat.le_of_ble_eq_true rfl) (by decide) ?_
 unfold startA
 repeat' (first|refine st_seq_reg rfl (by first|(simp only[go_sem,hx];rfl)|rfl) (by first|(simp only[go_sem,hx];rfl)|rfl) ?_|refine st_reg rfl (by first|(simp only[go_sem,hx];rfl)|rfl) (by first|(simp only[go_sem,hx];rfl)|rfl) ?_|refine st_op ?_|refine st_det rfl (by simp (disch:=omega) only[go_sem,wr_i64,hx];rfl) ?_|(refine st_drum (by first|(simp (disch:=omega) only[go_sem,hx];rfl)|rfl) rfl (c45 b _ (by omega)) (by first|(simp (disch:=omega) only[go_sem,hx];rfl)|rfl|exact put_same _ _ _) (by assumption) (by first|(simp only[go_sem,hx];rfl)|rfl) (by intro x' n;first|(simp (disch:=omega) only[go_sem];rfl)|rfl) ?_;rintro v x' n hu' ⟨r,rfl,hr1,hr2⟩ hn)|refine st_nil ?_|refine st_tN ?_|refine st_seq ?_|refine st_skip ?_|refine st_ret ?_|refine st_tE ?_|refine st_tR ?_)
 simp (disch:=omega) only[AEnd,Tryz.results47,aresK,fin,go_sem,implies_true,true_and,and_true,List.reverse_cons,List.reverse_nil]
 exact ⟨fun b' _ h2=>if_neg h2,⟨_,rfl,hu'⟩,⟨_,rfl⟩⟩
structure Gd (h:AH) (b:Nat × Nat) (x:Int) (g:AH):Prop where
 u:isU64 x
 d:g.at_ b=dr x
 old:∀ b':Nat × Nat,b'.1 < h.clk→b' ≠ b→g.at_ b'=h.at_ b'
 lp:g.lp=h.lp
 cl:h.clk≤g.clk
theorem Gd.to {h g g':AH} {b:Nat × Nat} {x x':Int} (hG:Gd h b x g) (u:isU64 x') (d:g'.at_ b=dr x') (ho:∀ b':Nat × Nat,b'.1 < h.clk→b' ≠ b→g'.at_ b'=g.at_ b') (hl:g'.lp=g.lp) (hc:g.clk≤g'.clk):Gd h b x' g' :=
 ⟨u,d,fun b' h1 h2=>by rw [ho b' h1 h2];exact hG.old b' h1 h2,by rw [hl];exact hG.lp,by have:=hG.cl;omega⟩
theorem Gd.put {h g:AH} {b:Nat × Nat} {x x':Int} (hG:Gd h b x g) (u:isU64 x') {n:Nat} (hn:g.clk≤n):Gd h b x' ((g.tick n).put b (dr x')) :=
 hG.to u (put_same _ _ _) (fun b' _ h2=>put_ne _ _ h2) rfl hn
theorem Gd.tick {h g:AH} {b:Nat × Nat} {x:Int} (hG:Gd h b x g) {n:Nat} (hn:g.clk≤n):Gd h b x (g.tick n):=hG.to hG.u hG.d (fun _ _ _=>rfl) rfl hn
theorem Gd.app {h H G:AH} {b:Nat × Nat} {x:Int} {h0 k0 d z n:Nat} {v v':AV} {l:List (List AV)} (hG:Gd h b x H) (hb:b.1 < h.clk) (h0h:h.clk≤h0) (hA:AppA h0 k0 d H v z n l v' G) {N:Nat} (hN:H.clk≤N):Gd h b x (G.tick N) :=
 hG.to hG.u (by show G.at_ b=_;rw [hA.old b (by omega)];exact hG.d) (fun b' h1 _=>hA.old b' (by omega)) hA.lp hN
structure ShS where
 i:Int
 x:Int
 v:AV
 ws:List Wk
 g:AH
structure SjS where
 i:Int
 x:Int
 v:AV
 js:List Jb
 g:AH
structure ShGood (S:Sp) (W J D:Int):Prop where
 w:1≤S.ws.length∧(S.ws.length:Int)≤W
 j:(S.js.length:Int)≤J
 job:∀ x ∈ S.js,0≤x.f∧x.f≤2∧1≤x.s∧x.s≤3∧1≤x.d∧x.d≤D
end Go.Proofs.YtaijkalhkgjakaaGreatDoor
