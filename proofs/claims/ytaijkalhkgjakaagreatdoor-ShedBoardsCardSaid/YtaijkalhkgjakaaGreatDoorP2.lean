/- Contracts of functions that the claim reaches: what each call gives, told in our own logic. Conditions: those of each theorem. -/
import Derived.Test.YtaijkalhkgjakaaGreatDoorF1
import Derived.Test.YtaijkalhkgjakaaGreatDoorBaseD
set_option linter.all false
set_option linter.unusedSimpArgs false
set_option linter.unusedVariables false
namespace Go.Proofs.YtaijkalhkgjakaaGreatDoor
open Go.Av
attribute [local irreducible] thenA blockA awp awpOps awpD awp1
attribute [local go_sem_proc] Nat.reduceAdd Nat.reduceMul Nat.reduceEqDiff Nat.reduceBEq Nat.reduceLeDiff
attribute [local go_sem_proc ↓] reduceIte
attribute [local go_sem] if_yes if_no
set_option maxHeartbeats 4000000
set_option maxRecDepth 20000
theorem c116a (lo hi a:Int):Pure Tryz.prog 116 [.int .i64 lo,.int .i64 hi,.lst 1 [[.int .i64 a]]] (fun v=>v=.bool (decide (lo≤a∧a≤hi))):=by
 have h:=c116 lo hi [a] (by simp)
 have e:allIn lo hi [a]=decide (lo≤a∧a≤hi):=by simp [allIn]
 rw [e] at h;exact h
theorem c116b (lo hi a b:Int):Pure Tryz.prog 116 [.int .i64 lo,.int .i64 hi,.lst 1 [[.int .i64 a],[.int .i64 b]]] (fun v=>v=.bool (decide (lo≤a∧a≤hi∧lo≤b∧b≤hi))):=by
 have h:=c116 lo hi [a,b] (by simp)
 have e:allIn lo hi [a,b]=decide (lo≤a∧a≤hi∧lo≤b∧b≤hi):=by simp [allIn,Bool.decide_and,Bool.and_assoc]
 rw [e] at h;exact h
structure Ld where
 at_:Int
 lo:Int
 hi:Int
 tlo:Int
 thi:Int
 kind:Int
 watts:Int
def Ld.row (x:Ld):List AV:=[.int .i64 x.at_,.int .i64 x.lo,.int .i64 x.hi,.int .i64 x.tlo,.int .i64 x.thi,.int .i64 x.kind,.int .i64 x.watts]
@[go_sem] theorem Ld.row_eq (x:Ld):x.row=[.int .i64 x.at_,.int .i64 x.lo,.int .i64 x.hi,.int .i64 x.tlo,.int .i64 x.thi,.int .i64 x.kind,.int .i64 x.watts]:=rfl
structure Fl where
 len:Int
 wid:Int
 front:Int
 rear:Int
 turn:Int
 kilos:Int
 mid:Int
 high:Int
 loads:List Ld
def Fl.av (f:Fl):AV:=.agg [.int .i64 f.len,.int .i64 f.wid,.int .i64 f.front,.int .i64 f.rear,.int .i64 f.turn,.int .i64 f.kilos,.int .i64 f.mid,.int .i64 f.high,.lst 7 (f.loads.map Ld.row)]
@[go_sem] theorem Fl.av_eq (f:Fl):f.av=.agg [.int .i64 f.len,.int .i64 f.wid,.int .i64 f.front,.int .i64 f.rear,.int .i64 f.turn,.int .i64 f.kilos,.int .i64 f.mid,.int .i64 f.high,.lst 7 (f.loads.map Ld.row)]:=rfl
def Tk.av (f:Fl) (p m:Int):AV:=.agg [.int .i64 f.len,.int .i64 f.wid,.int .i64 f.front,.int .i64 f.rear,.int .i64 f.turn,.int .i64 f.kilos,.int .i64 f.mid,.int .i64 f.high,.lst 7 (f.loads.map Ld.row),.int .i64 p,.int .i64 m]
@[go_sem] theorem Tk.av_eq (f:Fl) (p m:Int):Tk.av f p m=.agg [.int .i64 f.len,.int .i64 f.wid,.int .i64 f.front,.int .i64 f.rear,.int .i64 f.turn,.int .i64 f.kilos,.int .i64 f.mid,.int .i64 f.high,.lst 7 (f.loads.map Ld.row),.int .i64 p,.int .i64 m]:=rfl
structure Hu where
 kind:Int
 a:Int
 b:Int
def Hu.row (x:Hu):List AV:=[.int .i64 x.kind,.int .i64 x.a,.int .i64 x.b]
@[go_sem] theorem Hu.row_eq (x:Hu):x.row=[.int .i64 x.kind,.int .i64 x.a,.int .i64 x.b]:=rfl
def Hu.av (x:Hu):AV:=.agg [.int .i64 x.kind,.int .i64 x.a,.int .i64 x.b]
@[go_sem] theorem Hu.av_eq (x:Hu):x.av=.agg [.int .i64 x.kind,.int .i64 x.a,.int .i64 x.b]:=rfl
def rav (l:List Hu):AV:=.lst 3 (l.map Hu.row)
@[go_sem] theorem rav_eq (l:List Hu):rav l=.lst 3 (l.map Hu.row):=rfl
def ld (l:List Ld) (i:Nat):Ld:=l.getD i ⟨0,0,0,0,0,0,0⟩
def hu (l:List Hu) (i:Nat):Hu:=l.getD i ⟨0,0,0⟩
@[go_sem] theorem lrow_getD {l:List Ld} {i:Nat} (h:i < l.length):(l.map Ld.row).getD i []=(ld l i).row:=by
 simp [List.getD_eq_getElem?_getD,h,ld]
@[go_sem] theorem hrow_getD {l:List Hu} {i:Nat} (h:i < l.length):(l.map Hu.row).getD i []=(hu l i).row:=by
 simp [List.getD_eq_getElem?_getD,h,hu]
theorem drop_ld {l:List Ld} {i:Nat} (h:i < l.length):l.drop i=ld l i :: l.drop (i+1):=drop_getD _ h
theorem drop_hu {l:List Hu} {i:Nat} (h:i < l.length):l.drop i=hu l i :: l.drop (i+1):=drop_getD _ h
def spanE (lo hi top:Int):Int:=if ¬ (0≤lo∧lo≤top∧0≤hi∧hi≤top) then 2 else if lo > hi then 9 else 0
theorem c144 (lo hi top:Int):Pure Tryz.prog 144 [.agg [.int .i64 lo,.int .i64 hi],.int .i64 top] (fun v=>v=.int .i64 (spanE lo hi top)):=by
 intro h
 refine ACalls.forget (ACalls.of tab mixed Tryz.call144 Tryz.func144 rfl (fi:=⟨20,[],[2,11],none,[]⟩) rfl rfl (Nat.le_of_ble_eq_true rfl) (by decide) ?_)
 unfold startA
 repeat' (first|refine st_seq_reg rfl (by first|(simp only[go_sem];rfl)|rfl) (by first|(simp only[go_sem];rfl)|rfl) ?_|refine st_op ?_|refine st_det rfl (by simp (disch:=omega) only[go_sem,wr_i64];rfl) ?_|(refine st_pureE (by first|(simp (disch:=omega) only[go_sem];rfl)|rfl) rfl (c116b _ _ _ _) (by first|(simp only[go_sem];rfl)|rfl) (by intro n;first|(simp (disch:=omega) only[go_sem];rfl)|rfl) ?_;intro n hn)|(refine st_condS rfl ?_ ?_ <;> intro hg <;> (try simp only[dcT,dcF,bnT,bnF] at hg))|refine st_nil ?_|refine st_tN ?_|refine st_seq ?_|refine st_block ?_|refine st_skip ?_|refine st_ret ?_|refine st_tR ?_|refine st_bN ?_|refine st_bR ?_)
 all_goals
  simp (disch:=omega) only[AEnd,Tryz.results144,aresK,fin,go_sem,implies_true,true_and,and_true,List.reverse_cons,List.reverse_nil]
  simp [spanE] <;> omega
def loadE (f:Fl) (x:Ld):Int :=
 if ¬ (f.front≤x.at_∧x.at_≤f.rear) then 2 else if spanE x.lo x.hi 100000 ≠ 0 then spanE x.lo x.hi 100000 else if spanE x.tlo x.thi 2000 ≠ 0 then spanE x.tlo x.thi 2000
 else if ¬ (1≤x.kind∧x.kind≤4) then 3 else if ¬ (0≤x.watts∧x.watts≤1000000) then 2 else if 0 < x.watts∧¬ (x.kind=2 ∨ x.kind=3) then 1 else 0
theorem c117 (f:Fl) (x:Ld):Pure Tryz.prog 117 [f.av,.agg x.row] (fun v=>v=.int .i64 (loadE f x)):=by
 intro h
 refine ACalls.forget (ACalls.of tab mixed Tryz.call117 Tryz.func117 rfl (fi:=⟨52,[],[2,3,14,41],none,[]⟩) rfl rfl (Nat.le_of_ble_eq_true rfl) (by decide) ?_)
 unfold startA
 simp only[go_sem]
 repeat' (first|refine st_seq_reg rfl (by first|(simp only[go_sem];rfl)|rfl) (by first|(simp only[go_sem];rfl)|rfl) ?_|refine st_reg rfl (by first|(simp only[go_sem];rfl)|rfl) (by first|(simp only[go_sem];rfl)|rfl) ?_|refine st_op ?_|refine st_det rfl (by simp (disch:=omega) only[go_sem,wr_i64];rfl) ?_|(refine st_pureE (by first|(simp (disch:=omega) only[go_sem];rfl)|rfl) rfl (c116a _ _ _) (by first|(simp only[go_sem];rfl)|rfl) (by intro n;first|(simp (disch:=omega) only[go_sem];rfl)|rfl) ?_;intro n hn)|(refine st_pureE (by first|(simp (disch:=omega) only[go_sem];rfl)|rfl) rfl (c144 _ _ _) (by first|(simp only[go_sem];rfl)|rfl) (by intro n;first|(simp (disch:=omega) only[go_sem];rfl)|rfl) ?_;intro n hn)|refine st_gT rfl rfl rfl ?_|refine st_gF rfl rfl rfl ?_|(refine st_gS rfl rfl ?_ ?_ <;> intro hg <;> (try simp only[dcT,dcF,bnT,bnF] at hg))|refine st_condT rfl ?_|refine st_condF rfl ?_|(refine st_condS rfl ?_ ?_ <;> intro hg <;> (try simp only[dcT,dcF,bnT,bnF] at hg))|refine st_nil ?_|refine st_tN ?_|refine st_seq ?_|refine st_block ?_|refine st_skip ?_|refine st_exit ?_|refine st_ret ?_|refine st_tE ?_|refine st_tR ?_|refine st_bN ?_|refine st_bR ?_|refine st_bH ?_|refine st_bM rfl ?_)
 all_goals
  simp (disch:=omega) only[AEnd,Tryz.results117,aresK,fin,go_sem,implies_true,true_and,and_true,List.reverse_cons,List.reverse_nil]
  simp [loadE] <;> omega
def hurdleE (x:Hu):Int :=
 if x.kind=1 then (if ¬ (0≤x.a∧x.a≤20000∧0≤x.b∧x.b≤20000) then 2 else if x.a ≥ x.b then 9 else 0)
 else if x.kind=2 then (if ¬ (0≤x.a∧x.a≤2000) then 2 else if x.b ≠ 0 then 1 else 0)
 else if x.kind=3 then (if ¬ (0≤x.a∧x.a≤10000000∧0≤x.b∧x.b≤10000000) then 2 else 0) else 3
theorem c90 (x:Hu):Pure Tryz.prog 90 [x.av] (fun v=>v=.int .i64 (hurdleE x)):=by
 intro h
 refine ACalls.forget (ACalls.of tab mixed Tryz.call90 Tryz.func90 rfl (fi:=⟨42,[],[1,12,26,39],none,[]⟩) rfl rfl (Nat.le_of_ble_eq_true rfl) (by decide) ?_)
 unfold startA
 simp only[go_sem]
 repeat' (first|refine st_seq_reg rfl (by first|(simp only[go_sem];rfl)|rfl) (by first|(simp only[go_sem];rfl)|rfl) ?_|refine st_op ?_|refine st_det rfl (by simp (disch:=omega) only[go_sem,wr_i64];rfl) ?_|(refine st_pureE (by first|(simp (disch:=omega) only[go_sem];rfl)|rfl) rfl (c116a _ _ _) (by first|(simp only[go_sem];rfl)|rfl) (by intro n;first|(simp (disch:=omega) only[go_sem];rfl)|rfl) ?_;intro n hn)|(refine st_pureE (by first|(simp (disch:=omega) only[go_sem];rfl)|rfl) rfl (c116b _ _ _ _) (by first|(simp only[go_sem];rfl)|rfl) (by intro n;first|(simp (disch:=omega) only[go_sem];rfl)|rfl) ?_;intro n hn)|(refine st_condS rfl ?_ ?_ <;> intro hg <;> (try simp only[dcT,dcF,bnT,bnF] at hg))|refine st_nil ?_|refine st_tN ?_|refine st_seq ?_|refine st_block ?_|refine st_skip ?_|refine st_ret ?_|refine st_tR ?_|refine st_bN ?_|refine st_bR ?_)
 all_goals
  simp (disch:=omega) only[AEnd,Tryz.results90,aresK,fin,go_sem,implies_true,true_and,and_true,List.reverse_cons,List.reverse_nil]
  simp [hurdleE] <;> omega
end Go.Proofs.YtaijkalhkgjakaaGreatDoor

namespace Go.Proofs.YtaijkalhkgjakaaGreatDoor
open Go.Av
structure Sch where
 n:Nat
 m:Nat
 f:Nat→Nat
 d:Nat→Int
 can:Nat→Nat→Bool
structure Sch.Val (S:Sch) (W:Nat→Nat) (T:Nat→Int):Prop where
 w:∀ i,i < S.n→W i < S.m∧S.can (W i) i=true∧0≤T i
 ord:∀ k i,k < i→i < S.n→S.f k=S.f i→T k+S.d k≤T i
 clash:∀ k i,k < i→i < S.n→W k=W i→T k+S.d k≤T i ∨ T i+S.d i≤T k
theorem Sch.Val.apart {S:Sch} {W:Nat→Nat} {T:Nat→Int} (h:S.Val W T) {k i:Nat} (hk:k < S.n) (hi:i < S.n) (hne:k ≠ i) (hw:W k=W i):T k+S.d k≤T i ∨ T i+S.d i≤T k:=by
 rcases Nat.lt_or_ge k i with hlt|hge
 ·exact h.clash k i hlt hi hw
 ·exact (h.clash i k (by omega) hk hw.symm).symm
def Sch.SA (S:Sch) (W:Nat→Nat) (T:Nat→Int):Prop :=
 ∀ i,i < S.n→T i=0 ∨ ∃ k,k < S.n∧T k+S.d k=T i∧(W k=W i ∨ S.f k=S.f i)
def tot (T:Nat→Int):Nat→Nat
 | 0=>0
 | n+1=>tot T n+(T n).toNat
structure Sch.At (S:Sch) (W:Nat→Nat) (T:Nat→Int) (pl:Nat→Bool) (hands fl:Nat→Int) (last:Int):Prop where
 val:S.Val W T
 sa:S.SA W T
 pre:∀ k i,k < S.n→i < S.n→pl k=true→pl i=false→T k≤T i
 last:∀ i,i < S.n→pl i=false→last≤T i
 h1:∀ k,k < S.n→pl k=true→T k+S.d k≤hands (W k)
 h2:∀ w,w < S.m→hands w=0 ∨ ∃ k,k < S.n∧pl k=true∧W k=w∧T k+S.d k=hands w
 f1:∀ k,k < S.n→pl k=true→T k+S.d k≤fl (S.f k)
 f2:∀ i,i < S.n→fl (S.f i)=0 ∨ ∃ k,k < S.n∧pl k=true∧S.f k=S.f i∧T k+S.d k=fl (S.f i)
theorem Sch.At.hand {S:Sch} (hd:∀ i,i < S.n→1≤S.d i) {W:Nat→Nat} {T:Nat→Int} {pl:Nat→Bool} {hands fl:Nat→Int} {last:Int} (A:S.At W T pl hands fl last) {i:Nat} (hi:i < S.n) (hp:pl i=false):hands (W i)≤T i:=by
 obtain ⟨a,_,c⟩:=A.val.w i hi
 rcases A.h2 (W i) a with h|⟨k,hk,hpk,hw,he⟩
 ·omega
 ·have hne:k ≠ i:=by rintro rfl;rw [hp] at hpk;cases hpk
  have h1:=A.pre k i hk hi hpk hp
  have h2:=hd i hi
  rcases A.val.apart hk hi hne hw with h|h <;> omega
theorem Sch.At.float {S:Sch} (hd:∀ i,i < S.n→1≤S.d i) {W:Nat→Nat} {T:Nat→Int} {pl:Nat→Bool} {hands fl:Nat→Int} {last:Int} (A:S.At W T pl hands fl last) {i:Nat} (hi:i < S.n) (hp:pl i=false):fl (S.f i)≤T i:=by
 obtain ⟨_,_,c⟩:=A.val.w i hi
 rcases A.f2 i hi with h|⟨k,hk,hpk,hf,he⟩
 ·omega
 ·have hne:k ≠ i:=by rintro rfl;rw [hp] at hpk;cases hpk
  have h1:=A.pre k i hk hi hpk hp
  have h2:=hd i hi
  rcases Nat.lt_or_ge k i with hlt|hge
  ·have:=A.val.ord k i hlt hi hf;omega
  ·have:=A.val.ord i k (by omega) hk hf.symm;omega
theorem Sch.At.day {S:Sch} (hd:∀ i,i < S.n→1≤S.d i) {W:Nat→Nat} {T:Nat→Int} {pl:Nat→Bool} {hands fl:Nat→Int} {last:Int} (A:S.At W T pl hands fl last) {i:Nat} (hi:i < S.n) (hp:pl i=false) (hmin:∀ k,k < S.n→pl k=false→T i≤T k) (h0:0≤hands (W i)) :
  max (hands (W i)) (fl (S.f i))=T i:=by
 have h1:=A.hand hd hi hp
 have h2:=A.float hd hi hp
 rcases A.sa i hi with h|⟨k,hk,he,hr⟩
 ·omega
 ·have hdk:=hd k hk
  have hpk:pl k=true:=by
   cases hpk:pl k with
   | true=>rfl
   | false=>have:=hmin k hk hpk;omega
  rcases hr with hw|hf
  ·have:=A.h1 k hk hpk;rw [hw] at this;omega
  ·have:=A.f1 k hk hpk;rw [hf] at this;omega
theorem Sch.At.ready {S:Sch} (hd:∀ i,i < S.n→1≤S.d i) {W:Nat→Nat} {T:Nat→Int} {pl:Nat→Bool} {hands fl:Nat→Int} {last:Int} (A:S.At W T pl hands fl last) {i:Nat} (hi:i < S.n) (hmin:∀ k,k < S.n→pl k=false→T i≤T k) {k:Nat} (hk:k < i) (hf:S.f k=S.f i):pl k=true:=by
 cases hpk:pl k with
 | true=>rfl
 | false =>
  have h1:=hmin k (by omega) hpk
  have h2:=A.val.ord k i hk hi hf
  have h3:=hd k (by omega)
  omega
theorem Sch.At.next {S:Sch} (hd:∀ i,i < S.n→1≤S.d i) {W:Nat→Nat} {T:Nat→Int} {pl:Nat→Bool} {hands fl:Nat→Int} {last:Int} (A:S.At W T pl hands fl last) {i:Nat} (hi:i < S.n) (hp:pl i=false) (hmin:∀ k,k < S.n→pl k=false→T i≤T k) :
  S.At W T (upd pl i true) (upd hands (W i) (T i+S.d i)) (upd fl (S.f i) (T i+S.d i)) (T i):=by
 have e1:=A.hand hd hi hp
 have e2:=A.float hd hi hp
 have hdi:=hd i hi
 refine ⟨A.val,A.sa,?_,?_,?_,?_,?_,?_⟩
 ·intro k j hk hj hpk hpj
  rw [upd_apply] at hpk hpj
  split at hpj
  ·cases hpj
  ·split at hpk
   ·rename_i e;subst e;exact hmin j hj hpj
   ·exact A.pre k j hk hj hpk hpj
 ·intro j hj hpj
  rw [upd_apply] at hpj
  split at hpj
  ·cases hpj
  ·exact hmin j hj hpj
 ·intro k hk hpk
  rw [upd_apply] at hpk
  rw [upd_apply]
  split at hpk
  ·rename_i e;subst e;simp
  ·have:=A.h1 k hk hpk
   split
   ·rename_i e;rw [e] at this;omega
   ·exact this
 ·intro w hw
  rw [upd_apply]
  split
  ·rename_i e;exact .inr ⟨i,hi,upd_same _ _ _,e.symm,rfl⟩
  ·rcases A.h2 w hw with h|⟨k,hk,hpk,hwk,he⟩
   ·exact .inl h
   ·refine .inr ⟨k,hk,?_,hwk,he⟩
    rw [upd_apply];split
    ·rfl
    ·exact hpk
 ·intro k hk hpk
  rw [upd_apply] at hpk
  rw [upd_apply]
  split at hpk
  ·rename_i e;subst e;simp
  ·have:=A.f1 k hk hpk
   split
   ·rename_i e;rw [e] at this;omega
   ·exact this
 ·intro j hj
  rw [upd_apply]
  split
  ·rename_i e;exact .inr ⟨i,hi,upd_same _ _ _,e.symm,rfl⟩
  ·rcases A.f2 j hj with h|⟨k,hk,hpk,hfk,he⟩
   ·exact .inl h
   ·refine .inr ⟨k,hk,?_,hfk,he⟩
    rw [upd_apply];split
    ·rfl
    ·exact hpk
def swp (a b w:Nat):Nat:=if w=a then b else if w=b then a else w
theorem swp_inj {a b x y:Nat} (h:swp a b x=swp a b y):x=y:=by
 unfold swp at h
 repeat' split at h
 all_goals omega
theorem Sch.At.swap {S:Sch} (hd:∀ i,i < S.n→1≤S.d i) {W:Nat→Nat} {T:Nat→Int} {pl:Nat→Bool} {hands fl:Nat→Int} {last:Int} (A:S.At W T pl hands fl last) {a b:Nat} (ha:a < S.m) (hb:b < S.m) (hc:∀ i,S.can a i=S.can b i) (hh:hands a=hands b) :
  S.At (fun i=>if pl i=true then W i else swp a b (W i)) T pl hands fl last:=by
 have hs:∀ w,hands (swp a b w)=hands w:=by
  intro w;unfold swp;split
  ·rename_i e;rw [e,hh]
  ·split
   ·rename_i e;rw [e,hh]
   ·rfl
 have hcan:∀ w i,S.can (swp a b w) i=S.can w i:=by
  intro w i;unfold swp;split
  ·rename_i e;rw [e,hc]
  ·split
   ·rename_i e;rw [e,hc]
   ·rfl
 have hlt:∀ w,w < S.m→swp a b w < S.m:=by
  intro w hw;unfold swp;split
  ·exact hb
  ·split
   ·exact ha
   ·exact hw
 have pu:∀ k i,k < S.n→i < S.n→pl k=true→pl i=false→W k=swp a b (W i)→T k+S.d k≤T i:=by
  intro k i hk hi hpk hpi hw
  have h1:=A.h1 k hk hpk
  rw [hw,hs] at h1
  have:=A.hand hd hi hpi
  omega
 refine ⟨⟨?_,A.val.ord,?_⟩,?_,A.pre,A.last,?_,?_,A.f1,A.f2⟩
 ·intro i hi
  obtain ⟨x,y,z⟩:=A.val.w i hi
  skip
  split
  ·exact ⟨x,y,z⟩
  ·exact ⟨hlt _ x,by rw [hcan];exact y,z⟩
 ·intro k i hki hi hw
  skip
  cases hpk:pl k <;> cases hpi:pl i <;> simp only[hpk,hpi,if_true,Bool.false_eq_true,if_false] at hw
  ·exact A.val.clash k i hki hi (swp_inj hw)
  ·exact .inr (pu i k hi (by omega) hpi hpk hw.symm)
  ·exact .inl (pu k i (by omega) hi hpk hpi hw)
  ·exact A.val.clash k i hki hi hw
 ·intro i hi
  rcases A.sa i hi with h|⟨k,hk,he,hw|hf⟩
  ·exact .inl h
  ·have hdk:=hd k hk
   dsimp only
   cases hpi:pl i with
   | true =>
    cases hpk:pl k with
    | true=>exact .inr ⟨k,hk,he,.inl (by simp [hpk,hw])⟩
    | false=>have:=A.pre i k hi hk hpi hpk;omega
   | false =>
    cases hpk:pl k with
    | false=>exact .inr ⟨k,hk,he,.inl (by simp [hpk,hw])⟩
    | true =>
     have h1:=A.h1 k hk hpk
     have h2:=A.hand hd hi hpi
     rw [hw] at h1
     rcases A.h2 (swp a b (W i)) (hlt _ (A.val.w i hi).1) with h|⟨k2,hk2,hpk2,hw2,he2⟩
     ·left;rw [hs] at h;omega
     ·right
      refine ⟨k2,hk2,?_,.inl (by simp [hpk2,hw2])⟩
      rw [he2,hs];omega
  ·exact .inr ⟨k,hk,he,.inr hf⟩
 ·intro k hk hpk
  simp only[hpk,if_true]
  exact A.h1 k hk hpk
 ·intro w hw
  rcases A.h2 w hw with h|⟨k,hk,hpk,hwk,he⟩
  ·exact .inl h
  ·exact .inr ⟨k,hk,hpk,by simp [hpk,hwk],he⟩
theorem Sch.At.start {S:Sch} {W:Nat→Nat} {T:Nat→Int} (h:S.Val W T) (hs:S.SA W T):S.At W T (fun _=>false) (fun _=>0) (fun _=>0) 0 :=
 ⟨h,hs,fun _ _ _ _ h=>by simp at h,fun i hi _=>(h.w i hi).2.2,fun _ _ h=>by simp at h,fun _ _=>.inl rfl,fun _ _ h=>by simp at h,fun _ _=>.inl rfl⟩
theorem exists_first {n:Nat} {pl:Nat→Bool} {T:Nat→Int} (h:∃ i,i < n∧pl i=false):∃ i,i < n∧pl i=false∧∀ k,k < n→pl k=false→T i≤T k:=by
 induction n with
 | zero=>obtain ⟨i,hi,_⟩:=h;omega
 | succ n ih =>
  by_cases hx:∃ i,i < n∧pl i=false
  ·obtain ⟨i,hi,hp,hm⟩:=ih hx
   by_cases hn:pl n=false∧T n < T i
   ·refine ⟨n,by omega,hn.1,fun k hk hpk=>?_⟩
    by_cases hkn:k=n
    ·subst hkn;exact Int.le_refl _
    ·have:=hm k (by omega) hpk;omega
   ·refine ⟨i,by omega,hp,fun k hk hpk=>?_⟩
    by_cases hkn:k=n
    ·subst hkn
     have:¬ T k < T i:=fun hlt=>hn ⟨hpk,hlt⟩
     omega
    ·exact hm k (by omega) hpk
  ·obtain ⟨i,hi,hp⟩:=h
   have:i=n:=by
    apply Classical.byContradiction
    intro hne
    exact hx ⟨i,by omega,hp⟩
   subst this
   refine ⟨i,by omega,hp,fun k hk hpk=>?_⟩
   by_cases hkn:k=i
   ·subst hkn;exact Int.le_refl _
   ·exact absurd ⟨k,by omega,hpk⟩ hx
structure Wk where
 a:Bool
 b:Bool
 c:Bool
 deriving DecidableEq,Inhabited
structure Jb where
 f:Int
 s:Int
 d:Int
 deriving DecidableEq,Inhabited
structure Sf where
 w:Int
 d:Int
 deriving DecidableEq,Inhabited
structure Sp where
 ws:List Wk
 js:List Jb
 deriving DecidableEq
def Wk.can (w:Wk) (s:Int):Bool:=if s=1 then w.a else if s=2 then w.b else w.c
def jOf (js:List Jb) (i:Nat):Jb:=js.getD i ⟨0,0,0⟩
def Sp.j (S:Sp) (i:Nat):Jb:=jOf S.js i
def Sp.wk (S:Sp) (i:Nat):Wk:=S.ws.getD i ⟨false,false,false⟩
def Sp.sch (S:Sp):Sch:=⟨S.js.length,S.ws.length,fun i=>(S.j i).f.toNat,fun i=>(S.j i).d,fun w i=>(S.wk w).can (S.j i).s⟩
def Jb.Ok (j:Jb):Prop:=0≤j.f∧j.f≤6∧1≤j.s∧j.s≤3∧1≤j.d∧j.d≤30
structure Sp.Ok (S:Sp):Prop where
 m0:1≤S.ws.length
 m4:S.ws.length≤4
 n7:S.js.length≤7
 job:∀ j ∈ S.js,j.Ok
theorem Sp.Ok.j {S:Sp} (h:S.Ok) {i:Nat} (hi:i < S.js.length):(S.j i).Ok:=by
 unfold Sp.j jOf
 rw [List.getD_eq_getElem?_getD,List.getElem?_eq_getElem hi]
 exact h.job _ (List.getElem_mem hi)
theorem Sp.Ok.d {S:Sp} (h:S.Ok):∀ i,i < S.sch.n→1≤S.sch.d i:=fun i hi=>(h.j hi).2.2.2.2.1
structure Dr where
 day:List Int
 pl:Nat
 hands:List Int
 fls:List Int
 last:Int
 deriving DecidableEq
def dr0:Dr:=⟨List.replicate 7 0,0,List.replicate 4 0,List.replicate 7 0,0⟩
def withD (js:List Jb) (x:Dr) (job w:Nat):Dr :=
 let j:=jOf js job
 let l:=max (x.hands.getD w 0) (x.fls.getD j.f.toNat 0)
 { day:=x.day.set job l,pl:=x.pl ||| 2 ^ job,hands:=x.hands.set w (l+j.d),fls:=x.fls.set j.f.toNat (l+j.d),last:=l }
def befJ (js:List Jb) (f:Int):Nat→Int
 | 0=>-1
 | k+1=>if (jOf js k).f=f then k else befJ js f k
theorem befJ_cases (js:List Jb) (f:Int) (n:Nat):(befJ js f n = -1∧∀ k,k < n→(jOf js k).f ≠ f) ∨ ∃ k:Nat,befJ js f n=k∧k < n∧(jOf js k).f=f∧∀ k',k < k'→k' < n→(jOf js k').f ≠ f:=by
 induction n with
 | zero=>left;exact ⟨rfl,fun k h=>by omega⟩
 | succ n ih =>
  simp only[befJ]
  split
  ·rename_i h
   right
   exact ⟨n,rfl,by omega,h,fun k' h1 h2=>by omega⟩
  ·rename_i h
   rcases ih with ⟨a,b⟩|⟨k,a,b,c,d⟩
   ·left
    refine ⟨a,fun k hk=>?_⟩
    by_cases e:k=n
    ·subst e;exact h
    ·exact b k (by omega)
   ·right
    refine ⟨k,a,by omega,c,fun k' h1 h2=>?_⟩
    by_cases e:k'=n
    ·subst e;exact h
    ·exact d k' h1 (by omega)
def readyD (js:List Jb) (x:Dr) (job:Nat):Bool :=
 !x.pl.testBit job && (let k:=befJ js (jOf js job).f job;decide (k < 0) || x.pl.testBit k.toNat)
def twin (S:Sp) (x:Dr) (i:Nat):Bool:=(List.range i).any fun k=>decide (S.wk k=S.wk i) && decide (x.hands.getD k 0=x.hands.getD i 0)
def nextAt (S:Sp) (x:Dr) (job i:Nat):Option Dr :=
 if readyD S.js x job && (S.wk i).can (S.j job).s && !twin S x i && decide (x.last≤(withD S.js x job i).last) then some (withD S.js x job i) else none
def nextD (S:Sp) (x:Dr):List Dr:=(List.range S.js.length).flatMap fun job=>(List.range S.ws.length).filterMap (nextAt S x job)
inductive Rch (S:Sp):Dr→Dr→Prop
 | refl (x:Dr):Rch S x x
 | step {x y z:Dr}:y ∈ nextD S x→Rch S y z→Rch S x z
theorem mem_nextD {S:Sp} {x y:Dr}:y ∈ nextD S x ↔ ∃ job i,job < S.js.length∧i < S.ws.length∧nextAt S x job i=some y:=by
 simp only[nextD,List.mem_flatMap,List.mem_range,List.mem_filterMap]
 constructor
 ·rintro ⟨job,h1,i,h2,h3⟩;exact ⟨job,i,h1,h2,h3⟩
 ·rintro ⟨job,i,h1,h2,h3⟩;exact ⟨job,h1,i,h2,h3⟩
structure Dr.Sz (S:Sp) (x:Dr):Prop where
 day:x.day.length=7
 hands:x.hands.length=4
 fls:x.fls.length=7
 pl:x.pl < 2 ^ S.js.length
 pad:∀ i,S.js.length≤i→x.day.getD i 0=0
theorem getD_set {α:Type} (l:List α) (i k:Nat) (v d:α) (h:i < l.length):(l.set i v).getD k d=if k=i then v else l.getD k d:=by
 rw [List.getD_eq_getElem?_getD,List.getElem?_set]
 by_cases e:i=k
 ·subst e;simp [h]
 ·rw [if_neg e,if_neg (Ne.symm e),List.getD_eq_getElem?_getD]
theorem testBit_put (p i k:Nat):(p ||| 2 ^ i).testBit k=(if k=i then true else p.testBit k):=by
 rw [Nat.testBit_or,Nat.testBit_two_pow]
 by_cases e:k=i
 ·subst e;simp
 ·have:¬ i=k:=fun h=>e h.symm
  simp [e,this]
theorem Dr.Sz.withD {S:Sp} (hS:S.Ok) {x:Dr} (h:x.Sz S) {job w:Nat} (hj:job < S.js.length):(withD S.js x job w).Sz S:=by
 refine ⟨by simp [Go.Proofs.YtaijkalhkgjakaaGreatDoor.withD,h.day],by simp [Go.Proofs.YtaijkalhkgjakaaGreatDoor.withD,h.hands],by simp [Go.Proofs.YtaijkalhkgjakaaGreatDoor.withD,h.fls],?_,?_⟩
 ·exact Nat.or_lt_two_pow h.pl (Nat.pow_lt_pow_right (by omega) hj)
 ·intro i hi
  have:=hS.n7
  simp only[Go.Proofs.YtaijkalhkgjakaaGreatDoor.withD]
  rw [getD_set _ _ _ _ _ (by rw [h.day];omega),if_neg (by omega)]
  exact h.pad i hi
structure DAt (S:Sp) (W:Nat→Nat) (T:Nat→Int) (x:Dr):Prop where
 at_:S.sch.At W T (fun i=>x.pl.testBit i) (fun w=>x.hands.getD w 0) (fun f=>x.fls.getD f 0) x.last
 sz:x.Sz S
 day:∀ i,i < S.js.length→x.pl.testBit i=true→x.day.getD i 0=T i
 hn:∀ w,0≤x.hands.getD w 0
def done (S:Sp) (x:Dr):Bool:=decide (x.pl=2 ^ S.js.length - 1)
theorem done_iff {S:Sp} {x:Dr} (h:x.Sz S):done S x=true ↔ ∀ i,i < S.js.length→x.pl.testBit i=true:=by
 simp only[done,decide_eq_true_eq]
 constructor
 ·intro e i hi
  rw [e,Nat.testBit_two_pow_sub_one]
  simpa using hi
 ·intro e
  apply Nat.eq_of_testBit_eq
  intro i
  rw [Nat.testBit_two_pow_sub_one]
  by_cases hi:i < S.js.length
  ·rw [e i hi];simp [hi]
  ·rw [Nat.testBit_lt_two_pow (Nat.lt_of_lt_of_le h.pl (Nat.pow_le_pow_right (by omega) (by omega)))];simp [hi]
def open_ (x:Dr):Nat→Nat
 | 0=>0
 | n+1=>open_ x n+if x.pl.testBit n then 0 else 1
theorem open_with {js:List Jb} {x:Dr} {job w:Nat} (hp:x.pl.testBit job=false):∀ n,open_ (withD js x job w) n+(if job < n then 1 else 0)=open_ x n:=by
 intro n
 induction n with
 | zero=>simp [open_]
 | succ n ih =>
  simp only[open_]
  have hb:(withD js x job w).pl.testBit n=(if n=job then true else x.pl.testBit n):=by simp only[withD];exact testBit_put _ _ _
  rw [hb]
  by_cases e:n=job
  ·subst e
   simp only[if_true,hp,Bool.false_eq_true,if_false]
   rw [if_neg (by omega)] at ih
   rw [if_pos (by omega)];omega
  ·rw [if_neg e]
   by_cases h1:job < n
   ·rw [if_pos h1] at ih
    have e1:(if job < n+1 then 1 else 0)=1:=if_pos (by omega)
    rw [e1];omega
   ·rw [if_neg h1] at ih
    have e1:(if job < n+1 then 1 else 0)=0:=if_neg (by omega)
    rw [e1];omega
theorem exists_least {p:Nat→Bool}:∀ {w:Nat},p w=true→∃ k,k≤w∧p k=true∧∀ j,j < k→p j=false:=by
 intro w
 induction w using Nat.strongRecOn with
 | _ w ih =>
  intro h
  by_cases hx:∃ j,j < w∧p j=true
  ·obtain ⟨j,hj,hp⟩:=hx
   obtain ⟨k,a,b,c⟩:=ih j hj hp
   exact ⟨k,by omega,b,c⟩
  ·exact ⟨w,Nat.le_refl _,h,fun j hj=>by cases hp:p j with|false=>rfl|true=>exact absurd ⟨j,hj,hp⟩ hx⟩
theorem DAt.put {S:Sp} (hS:S.Ok) {W:Nat→Nat} {T:Nat→Int} {x:Dr} (D:DAt S W T x) {i:Nat} (hi:i < S.js.length) (hp:x.pl.testBit i=false) (hmin:∀ k,k < S.js.length→x.pl.testBit k=false→T i≤T k) :
  DAt S W T (withD S.js x i (W i))∧(withD S.js x i (W i)).last=T i∧(∀ k,k < i→(S.j k).f=(S.j i).f→x.pl.testBit k=true):=by
 have hd:=hS.d
 have A:=D.at_
 obtain ⟨hwm,hcan,hT0⟩:=A.val.w i hi
 have hwm':W i < S.ws.length:=hwm
 have hday:=A.day hd hi hp hmin (D.hn (W i))
 have hN:=A.next hd hi hp hmin
 have hf7:(S.j i).f.toNat < 7:=by have:=hS.j hi;unfold Jb.Ok at this;omega
 have hl:(withD S.js x i (W i)).last=T i:=hday
 have hm4:=hS.m4
 refine ⟨⟨?_,D.sz.withD hS hi,?_,?_⟩,hl,fun k hk hf=>A.ready hd hi hmin hk (show (S.j k).f.toNat=(S.j i).f.toNat by rw [hf])⟩
 ·have e1:(fun j=>(withD S.js x i (W i)).pl.testBit j)=upd (fun j=>x.pl.testBit j) i true:=by
   funext j;simp only[withD,upd_apply];exact testBit_put _ _ _
  have e2:(fun w=>(withD S.js x i (W i)).hands.getD w 0)=upd (fun w=>x.hands.getD w 0) (W i) (T i+(S.j i).d):=by
   funext w;simp only[upd_apply]
   have:(withD S.js x i (W i)).hands=x.hands.set (W i) (T i+(S.j i).d):=by rw [← hl];rfl
   rw [this,getD_set _ _ _ _ _ (by rw [D.sz.hands];omega)]
  have e3:(fun f=>(withD S.js x i (W i)).fls.getD f 0)=upd (fun f=>x.fls.getD f 0) (S.j i).f.toNat (T i+(S.j i).d):=by
   funext w;simp only[upd_apply]
   have:(withD S.js x i (W i)).fls=x.fls.set (S.j i).f.toNat (T i+(S.j i).d):=by rw [← hl];rfl
   rw [this,getD_set _ _ _ _ _ (by rw [D.sz.fls];exact hf7)]
  rw [e1,e2,e3,hl]
  exact hN
 ·intro j hj hpj
  have hn7:=hS.n7
  have:(withD S.js x i (W i)).day=x.day.set i (T i):=by rw [← hl];rfl
  rw [this,getD_set _ _ _ _ _ (by rw [D.sz.day];omega)]
  split
  ·rename_i e;rw [e]
  ·rename_i e
   refine D.day j hj ?_
   have e1:(withD S.js x i (W i)).pl.testBit j=(if j=i then true else x.pl.testBit j):=testBit_put _ _ _
   rw [e1,if_neg e] at hpj
   exact hpj
 ·intro w
  have:(withD S.js x i (W i)).hands=x.hands.set (W i) (T i+(S.j i).d):=by rw [← hl];rfl
  rw [this,getD_set _ _ _ _ _ (by rw [D.sz.hands];omega)]
  have:=(hd i hi)
  have h3:S.sch.d i=(S.j i).d:=rfl
  split
  ·omega
  ·exact D.hn w
theorem DAt.step {S:Sp} (hS:S.Ok) {W:Nat→Nat} {T:Nat→Int} {x:Dr} (D:DAt S W T x) (h:∃ i,i < S.js.length∧x.pl.testBit i=false) :
  ∃ y W' job,y ∈ nextD S x∧DAt S W' T y∧job < S.js.length∧x.pl.testBit job=false∧∃ w,y=withD S.js x job w:=by
 obtain ⟨i,hi,hp,hmin⟩:=exists_first (T:=T) h
 have hd:=hS.d
 have A:=D.at_
 obtain ⟨hwm,hcan,hT0⟩:=A.val.w i hi
 obtain ⟨k',hk',hpk,hleast⟩:=exists_least (p:=fun k=>decide (S.wk k=S.wk (W i)) && decide (x.hands.getD k 0=x.hands.getD (W i) 0)) (w:=W i) (by simp)
 simp only[Bool.and_eq_true,decide_eq_true_eq] at hpk
 have hk'm:k' < S.ws.length:=Nat.lt_of_le_of_lt hk' hwm
 have A':=A.swap hd (a:=W i) (b:=k') hwm hk'm (fun j=>by show (S.wk (W i)).can _=(S.wk k').can _;rw [hpk.1]) hpk.2.symm
 have D':DAt S (fun j=>if x.pl.testBit j=true then W j else swp (W i) k' (W j)) T x:=⟨A',D.sz,D.day,D.hn⟩
 have hW':(if x.pl.testBit i=true then W i else swp (W i) k' (W i))=k':=by
  simp only[hp,Bool.false_eq_true,if_false,swp,if_true]
 obtain ⟨D2,hl,hrd⟩:=D'.put hS hi hp hmin
 rw [hW'] at D2 hl
 have hready:readyD S.js x i=true:=by
  unfold readyD
  simp only[hp,Bool.not_false,Bool.true_and,Bool.or_eq_true,decide_eq_true_eq]
  rcases befJ_cases S.js (jOf S.js i).f i with ⟨e,_⟩|⟨k,e,hk,hf,_⟩
  ·left;omega
  ·right
   rw [e]
   exact hrd k hk hf
 have htw:twin S x k'=false:=by
  unfold twin
  rw [List.any_eq_false]
  intro j hj
  have:=hleast j (by simpa using hj)
  rw [hpk.1,hpk.2]
  simpa using this
 refine ⟨withD S.js x i k',_,i,?_,D2,hi,hp,k',rfl⟩
 refine mem_nextD.2 ⟨i,k',hi,hk'm,?_⟩
 unfold nextAt
 rw [hready,htw,hl]
 have h1:(S.wk k').can (S.j i).s=true:=by rw [hpk.1];exact hcan
 have h2:x.last≤T i:=A.last i hi hp
 simp [h1,h2]
theorem getD_rep (n k:Nat):(List.replicate n (0:Int)).getD k 0=0:=by
 rw [List.getD_eq_getElem?_getD,List.getElem?_replicate];split <;> rfl
theorem sz0 (S:Sp):dr0.Sz S:=⟨rfl,rfl,rfl,Nat.two_pow_pos _,fun i _=>getD_rep 7 i⟩
theorem DAt.start {S:Sp} {W:Nat→Nat} {T:Nat→Int} (h:S.sch.Val W T) (hs:S.sch.SA W T):DAt S W T dr0:=by
 have A:=Sch.At.start h hs
 refine ⟨?_,sz0 S,?_,fun w=>by rw [show dr0.hands=List.replicate 4 0 from rfl,getD_rep];exact Int.le_refl _⟩
 ·have e1:(fun i=>dr0.pl.testBit i)=fun _=>false:=by funext i;simp [dr0]
  have e2:(fun w=>dr0.hands.getD w 0)=fun _=>0:=by funext w;exact getD_rep 4 w
  have e3:(fun w=>dr0.fls.getD w 0)=fun _=>0:=by funext w;exact getD_rep 7 w
  rw [e1,e2,e3]
  exact A
 ·intro i _ h;simp [dr0] at h
end Go.Proofs.YtaijkalhkgjakaaGreatDoor
