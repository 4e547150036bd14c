/- Contracts of functions that the claim reaches: what each call gives, told in our own logic. Conditions: those of each theorem. -/
import Derived.Test.YthpkmcjiobnpgaaGreatDoorF5
import Derived.Test.YthpkmcjiobnpgaaGreatDoorF1
open Nat (reduceAdd reduceMul reduceEqDiff reduceLeDiff)
open List (length_map)
set_option linter.all false
set_option linter.unusedSimpArgs false
set_option linter.unusedVariables false
namespace Go.Proofs.YthpkmcjiobnpgaaGreatDoor
open Go.Av Go.Txt Go.Lib
attribute [local irreducible] thenA blockA awp awpOps awpD awp1
set_option maxHeartbeats 8000000
set_option maxRecDepth 20000
def numsT (l:List Int):List UInt8:=l.flatMap fun n=>32 :: itoa n
def rowT (w:List UInt8) (l:List Int):List UInt8:=w ++ numsT l ++ [10]
def NumOk (l:List Int):Prop:=l.length≤1000000∧∀ x ∈ l,-9223372036854775808≤x∧x≤9223372036854775807
theorem numsT_len {l:List Int} (h:∀ x ∈ l,-9223372036854775808≤x∧x≤9223372036854775807):(numsT l).length≤22 * l.length:=by
  induction l with
  | nil=>exact Nat.le_refl _
  | cons x l ih =>
    have h1:=h x (by simp)
    have h2:=itoa_length_le x h1.1 h1.2
    have h3:=ih (fun y hy=>h y (by simp [hy]))
    unfold numsT at h3 ⊢
    rw [List.flatMap_cons,List.length_append,List.length_cons,List.length_cons]
    omega
theorem numsT_take {l:List Int} {i:Nat} (h:i < l.length):numsT (l.take (i+1))=numsT (l.take i) ++ (32 :: itoa (l.getD i 0)):=by
  unfold numsT
  rw [List.take_succ,List.flatMap_append,List.getElem?_eq_getElem h,List.getD_eq_getElem?_getD,List.getElem?_eq_getElem h]
  simp
theorem iv_getD {l:List Int} {i:Nat} (h:i < l.length):(l.map iv).getD i []=[.int .i64 (l.getD i 0)]:=by
  rw [List.getD_eq_getElem?_getD,List.getElem?_map,List.getElem?_eq_getElem h,List.getD_eq_getElem?_getD,List.getElem?_eq_getElem h];rfl
theorem int_mem {l:List Int} {i:Nat} (h:i < l.length):l.getD i 0 ∈ l:=by
  rw [List.getD_eq_getElem?_getD,List.getElem?_eq_getElem h];exact List.getElem_mem h
theorem c28 (word:List UInt8) (l:List Int) (lb:Nat) (bs:List UInt8) (h0 h:AH) (hgl:h.gl=gT) (hB:BdZ h0 h lb bs) (hn:NumOk l) (hb:bs.length≤1000000000) (hw:word.length≤1000) :
    ACalls Tryz.prog 28 [.str word,.lst 1 (l.map iv),.gptr lb 0] h (fun v h'=>v=.tup []∧BdZ h0 h' lb (bs ++ rowT word l)∧h'.at_=h.at_∧h.clk≤h'.clk∧h'.gl=h.gl):=by
  obtain ⟨hn1,hn2⟩:=hn
  have hB0:BdZ h0 (h.tick (h.clk+1)) lb bs:=hB
  have hlen:∀ i,(numsT (l.take i)).length≤22000000:=fun i=>by
    have:=numsT_len (l:=l.take i) (fun x hx=>hn2 x (List.mem_of_mem_take hx))
    rw [List.length_take] at this
    omega
  refine ACalls.ofS tab Tryz.call28 Tryz.func28 rfl (fi:=⟨21,[],[],none,[]⟩) rfl rfl (Nat.le_of_ble_eq_true rfl) ?_
  unfold startA
  try simp only[go_sem]
  refine asem_awp (fi:=⟨21,[],[],none,[]⟩) tab mixed (by decide) ?_
  repeat' (first|refine st_seq_reg rfl (by first|(simp only[go_sem];rfl)|rfl) (by first|(simp only[go_sem];rfl)|rfl) ?_|refine st_op ?_|refine st_det rfl (by simp (disch:=omega) only[go_sem,wr_i64,if_yes,if_no,↓reduceIte,reduceAdd,reduceMul,reduceEqDiff,Nat.reduceBEq,reduceLeDiff];rfl) ?_|(refine st_callf rfl rfl (c29 hB0 (s:=word) (by omega)) ?_;rintro v' h1 ⟨rfl,hB1,ha1,hk1,hg1⟩)|refine st_nil ?_|refine st_seq ?_|refine st_block ?_)
  have hgl1:h1.gl=gT:=hg1.trans hgl
  repeat' (first|refine st_seq_reg rfl (by first|(simp only[go_sem,length_map];rfl)|rfl) (by first|(simp only[go_sem,length_map];rfl)|rfl) ?_)
  refine st_loopH (α:=Nat × AH) tab mixed [] [] (by repeat (first|exact trivial|refine ⟨rfl,?_⟩)) [] [] (by repeat (first|exact trivial|refine ⟨rfl,?_⟩)) (fun a=>[(11,.int .i64 (a.1:Nat))]) [(0,_),(1,_),(2,_),(9,_),(10,_)] (fun _=>[]) [] (fun a=>a.2) (fun a=>a.1≤l.length∧BdZ h0 a.2 lb (bs ++ word ++ numsT (l.take a.1))∧a.2.at_=h.at_∧h.clk≤a.2.clk∧a.2.gl=gT) (fun a=>l.length - a.1) (by decide) (0,_) (by exact ⟨Nat.zero_le _,by show BdZ h0 h1 lb _;simpa [numsT] using hB1,ha1,by simp only[go_sem] at hk1 ⊢;omega,hgl1⟩) (by (try simp only[go_sem]);repeat' (first|exact trivial|refine And.intro ?_ ?_|rfl|(simp (disch:=omega) only[go_sem,if_yes,if_no,↓reduceIte,reduceAdd,reduceMul,reduceEqDiff,Nat.reduceBEq,reduceLeDiff];rfl)|(simp (disch:=omega) only[go_sem,if_yes,if_no,↓reduceIte,reduceAdd,reduceMul,reduceEqDiff,Nat.reduceBEq,reduceLeDiff]))) (by (try simp only[go_sem]);repeat' (first|exact trivial|refine And.intro ?_ ?_|rfl|(simp (disch:=omega) only[go_sem,if_yes,if_no,↓reduceIte,reduceAdd,reduceMul,reduceEqDiff,Nat.reduceBEq,reduceLeDiff];rfl)|(simp (disch:=omega) only[go_sem,if_yes,if_no,↓reduceIte,reduceAdd,reduceMul,reduceEqDiff,Nat.reduceBEq,reduceLeDiff]))) (HOld.refl _) ?_
  rintro ⟨i,g2⟩ c2 ⟨hi,hB2,ha2,hk2,hg2⟩ hc2
  dsimp only at hi hB2 ha2 hk2 hg2 hc2
  simp only[go_sem]
  by_cases hil:i < l.length
  case neg =>
    obtain rfl:i=l.length:=by omega
    have hB3:BdZ h0 (g2.tick (c2+1+1)) lb (bs ++ word ++ numsT l):=by rw [List.take_length] at hB2;exact hB2
    have hlt:=hlen l.length
    rw [List.take_length] at hlt
    repeat' (first|refine st_seq_reg rfl (by first|(simp only[go_sem,length_map];rfl)|rfl) (by first|(simp only[go_sem,length_map];rfl)|rfl) ?_|refine st_reg rfl (by first|(simp only[go_sem,length_map];rfl)|rfl) (by first|(simp only[go_sem,length_map];rfl)|rfl) ?_|refine st_op ?_|refine st_det rfl (by simp (disch:=omega) only[go_sem,wr_i64,if_yes,if_no,↓reduceIte,reduceAdd,reduceMul,reduceEqDiff,Nat.reduceBEq,reduceLeDiff,length_map];rfl) ?_|(refine st_callf rfl rfl (c31 10 hB3 (by simp only[List.length_append];omega)) ?_;rintro v' h2 ⟨rfl,hB4,ha4,hk4,hg4⟩)|(refine st_condS rfl ?_ ?_ <;> intro hg <;> (try simp only[decide_eq_true_eq,decide_eq_false_iff_not,Bool.not_eq_true',Bool.not_eq_false'] at hg))|refine st_nil ?_|refine st_tN ?_|refine st_seq ?_|refine st_block ?_|refine st_skip ?_|refine st_exit ?_|refine st_tE ?_|refine st_bH ?_)
    all_goals try (exfalso;omega)
    simp (disch:=omega) only[AEnd,Tryz.results28,aresK,fin,go_sem,↓reduceIte,reduceEqDiff,reduceAdd,reduceLeDiff,if_yes,if_no,implies_true,true_and,and_true,List.reverse_cons,List.reverse_nil]
    refine ⟨?_,ha4.trans ha2,?_,hg4.trans (hg2.trans hgl.symm)⟩
    · show BdZ h0 h2 lb _
      have e:bs ++ rowT word l=bs ++ word ++ numsT l ++ [10]:=by unfold rowT;simp [List.append_assoc]
      rw [e];exact hB4
    · show h.clk≤h2.clk
      have:h2.clk=c2+1+1:=hk4
      omega
  have hx:=hn2 _ (int_mem hil)
  have hit:=itoa_length_le _ hx.1 hx.2
  have hB3:∀ n,BdZ h0 (g2.tick n) lb (bs ++ word ++ numsT (l.take i)):=fun _=>hB2
  have hlt:=hlen i
  repeat' (first|refine st_seq_reg rfl (by first|(simp only[go_sem,length_map,iv_getD hil];rfl)|rfl) (by first|(simp only[go_sem,length_map,iv_getD hil];rfl)|rfl) ?_|refine st_reg rfl (by first|(simp only[go_sem,length_map,iv_getD hil];rfl)|rfl) (by first|(simp only[go_sem,length_map,iv_getD hil];rfl)|rfl) ?_|refine st_op ?_|refine st_det rfl (by simp (disch:=omega) only[go_sem,wr_i64,if_yes,if_no,↓reduceIte,reduceAdd,reduceMul,reduceEqDiff,Nat.reduceBEq,reduceLeDiff,length_map,iv_getD hil];rfl) ?_|(refine st_pureGE rfl rfl (c30 (l.getD i 0) hx.1 hx.2) (by exact hg2) (by rfl) (by intro n;rfl) ?_;intro n hn)|(refine st_callf rfl rfl (c29 (hB3 _) (s:=32 :: itoa (l.getD i 0)) (by simp only[List.length_append,List.length_cons];omega)) ?_;rintro v' h2 ⟨rfl,hB4,ha4,hk4,hg4⟩)|(refine st_condS rfl ?_ ?_ <;> intro hg <;> (try simp only[decide_eq_true_eq,decide_eq_false_iff_not,Bool.not_eq_true',Bool.not_eq_false'] at hg))|refine st_nil ?_|refine st_tN ?_|refine st_seq ?_|refine st_block ?_|refine st_skip ?_|refine st_exit ?_|refine st_tE ?_|refine st_bN ?_|refine st_bH ?_)
  all_goals try (exfalso;omega)
  have hB5:BdZ h0 h2 lb (bs ++ word ++ numsT (l.take (i+1))):=by rw [numsT_take hil,← List.append_assoc];exact hB4
  refine ⟨(i+1,_),(by exact ⟨by show i+1≤l.length;omega,hB5,ha4.trans ha2,by (have e4:h2.clk=n:=hk4;have e5:c2≤n:=Nat.le_trans (Nat.le_add_right _ 3) hn;try simp only[go_sem];omega),hg4.trans hg2⟩),(by show l.length - (i+1) < l.length - i;omega),(by repeat' (first|exact trivial|refine And.intro ?_ ?_|rfl|(simp (disch:=omega) only[go_sem,if_yes,if_no,↓reduceIte,reduceAdd,reduceMul,reduceEqDiff,Nat.reduceBEq,reduceLeDiff];rfl)|(simp (disch:=omega) only[go_sem,if_yes,if_no,↓reduceIte,reduceAdd,reduceMul,reduceEqDiff,Nat.reduceBEq,reduceLeDiff]))),(by repeat' (first|exact trivial|refine And.intro ?_ ?_|rfl|(simp (disch:=omega) only[go_sem,if_yes,if_no,↓reduceIte,reduceAdd,reduceMul,reduceEqDiff,Nat.reduceBEq,reduceLeDiff];rfl)|(simp (disch:=omega) only[go_sem,if_yes,if_no,↓reduceIte,reduceAdd,reduceMul,reduceEqDiff,Nat.reduceBEq,reduceLeDiff]))),rfl,HOld.refl _⟩
end Go.Proofs.YthpkmcjiobnpgaaGreatDoor

namespace Go.Av
theorem VLes.mid {pre post:List AV} {v v':AV} (h:VLe v v'):VLes (pre ++ v :: post) (pre ++ v' :: post):=by
  induction pre with
  | nil=>simp only[List.nil_append,VLes];exact ⟨_,_,rfl,h,VLes.refl _⟩
  | cons x pre ih=>simp only[List.cons_append,VLes];exact ⟨_,_,rfl,VLe.refl _,ih⟩
theorem frzs_app (b:Bid) (k:Blk):∀ (l r:List AV),frzs b k (l ++ r)=frzs b k l ++ frzs b k r
  | [],r=>by simp only[List.nil_append,frzs]
  | x :: l,r=>by simp only[List.cons_append,frzs,frzs_app b k l r]
theorem SlA.ansT {h g:AH} {v:AV} {z:Nat} {l:List (List AV)} {R:AV→Prop} (pre post:List AV) (hp:∀ b k,frzs b k pre=pre) (hq:∀ b k,frzs b k post=post) (hS:SlA h.clk g v z l) (hR:R (.tup (pre ++ .lst z l :: post))) :
    (∃ v',VLe (.tup (pre ++ v :: post)) v'∧R v') ∨ ∃ b2 k',h.clk≤b2.1∧g.at_ b2=some k'∧R (frz b2 k' (.tup (pre ++ v :: post))):=by
  rcases hS with ⟨rfl,rfl⟩|⟨b1,rfl,h2,h3,h4⟩
  · exact .inl ⟨_,VLe.tup (VLes.mid (VLe.nils z)),hR⟩
  · refine .inr ⟨b1,_,h3,h2,?_⟩
    have e:=frz_lst (b:=b1) (z:=z) (l:=l)
    simp only[frz,frzs_app,frzs,hp,hq] at e ⊢
    rw [e];exact hR
end Go.Av
namespace Go.Av
variable {P:Program}
theorem ASem.cutWg {r:Option Nat} {n:Nat} {code:Code} {Q:Exit→AS→Prop} {T:Nat→AV} {B:Bid→Option (List AV)} {M:List Nat} {H:AH} (id:Bid) (pre post:List AV) (v:AV) (z:Nat) (l:List (List AV)) {h0:Nat} (hB:B id=some (pre ++ v :: post)) (hS:SlA h0 H v z l)
    (hst:∀ b m,v=.slc b z 0 m→frzs b ⟨z,l⟩ pre=pre∧frzs b ⟨z,l⟩ post=post)
    (h:∀ H',(∀ b',(∀ m,v ≠ .slc b' z 0 m)→H'.at_ b'=H.at_ b')→H'.clk=H.clk→H'.lp=H.lp→H'.gl=H.gl→ASem P r n code Q ⟨T,upd B id (some (pre ++ .lst z l :: post)),M,H'⟩):ASem P r n code Q ⟨T,B,M,H⟩:=by
  refine ASem.cutXg id (fun b=>∃ m,v=.slc b z 0 m) (cs':=pre ++ .lst z l :: post) hB ?_ fun H' h1 h2 h3 h4=>h H' (fun b' hb'=>h1 b' fun ⟨m,e⟩=>hb' m e) h2 h3 h4
  rcases hS with ⟨rfl,rfl⟩|⟨b1,rfl,h2,h3,h4⟩
  · exact .inl ⟨VLes.pre (VLe.nils z),fun hall=>by simpa [AV.cell] using hall⟩
  · obtain ⟨e1,e2⟩:=hst b1 _ rfl
    refine .inr ⟨b1,_,h2,?_,_,rfl⟩
    rw [frzs_app,e1]
    simp only[frzs,e2]
    rw [frz_lst]
def Dis (z z':Nat) (v v':AV):Prop:=∀ b m m',v=.slc b z 0 m→v'=.slc b z' 0 m'→False
theorem Dis.frz {z z':Nat} {v v':AV} {h0:Nat} {g:AH} {l':List (List AV)} (hd:Dis z z' v v') (hS:SlA h0 g v' z' l'):∀ b m k,v=.slc b z 0 m→frz b k v'=v':=by
  intro b m k e
  rcases hS with ⟨rfl,_⟩|⟨b2,rfl,_⟩
  · rfl
  · have hne:¬ b2=b:=fun q=>hd b m _ e (by rw [q])
    simp only[Av.frz,if_neg (fun q:b2=b∧_=>hne q.1)]
end Go.Av
namespace Go.Txt
open Go.Lib
def numsP (k:Nat):List (List UInt8)→Option (List Int)
  | []=>some []
  | x :: l=>match numP k x,numsP k l with
    | some n,some r=>some ((n:Int) :: r)
    | _,_=>none
theorem numsP_snoc {k:Nat} {x:List UInt8}:∀ {l:List (List UInt8)},numsP k (l ++ [x])=match numsP k l,numP k x with
    | some r,some n=>some (r ++ [(n:Int)])
    | _,_=>none
  | []=>by
    simp only[List.nil_append,numsP]
    cases numP k x <;> rfl
  | y :: l=>by
    simp only[List.cons_append,numsP,numsP_snoc (l:=l)]
    cases numP k y <;> cases numsP k l <;> cases numP k x <;> rfl
theorem numsP_bad {k:Nat}:∀ {l r:List (List UInt8)},numsP k l=none→numsP k (l ++ r)=none
  | [],r,h=>by simp [numsP] at h
  | y :: l,r,h=>by
    simp only[List.cons_append,numsP] at h ⊢
    cases hy:numP k y with
    | none=>rfl
    | some n =>
      rw [hy] at h
      cases hl:numsP k l with
      | none=>rw [numsP_bad hl]
      | some q=>rw [hl] at h;cases h
def rowP (k:Nat) (s:List UInt8):Option (List UInt8 × List Int):=match splitL 32 s with
  | []=>none
  | w :: ws=>(numsP k ws).map fun l=>(w,l)
theorem splitL_len (c:UInt8):∀ s,(splitL c s).length≤s.length+1
  | []=>by simp [splitL]
  | b :: s=>by
    obtain ⟨q,qs,h1,h2⟩:=splitL_cons c b s
    have:=splitL_len c s
    rw [h1] at this
    rw [h2]
    split <;> simp at this ⊢ <;> omega
theorem splitL_sub {c:UInt8}:∀ {s r:List UInt8},r ∈ splitL c s→r.length≤s.length
  | [],r,h=>by simp [splitL] at h;subst h;simp
  | b :: s,r,h=>by
    obtain ⟨q,qs,h1,h2⟩:=splitL_cons c b s
    have ih:=fun {x} hx=>splitL_sub (c:=c) (s:=s) (r:=x) (by rw [h1];exact hx)
    rw [h2] at h
    split at h
    · simp at h
      rcases h with rfl|h
      · simp
      · have:=ih (x:=r) (by simpa using h);simp;omega
    · simp at h
      rcases h with rfl|h
      · have:=ih (x:=q) (by simp);simp;omega
      · have:=ih (x:=r) (by simp [h]);simp;omega
theorem atoi_bd {l:List UInt8} {v:Int} (h:atoiAll l=.ok v):-9223372036854775808≤v∧v≤9223372036854775807:=by
  unfold atoiAll at h
  split at h
  · cases h
  · dsimp only at h
    split at h
    · cases h
    · cases h
    · split at h
      · cases h
      · split at h
        · cases h
        · rename_i h1 h2
          injection h with h
          split at h <;> omega
end Go.Txt

namespace Go.Proofs.YthpkmcjiobnpgaaGreatDoor
open Go.Av Go.Txt Go.Lib
theorem itoa_nat (n:Nat):itoa (n:Int)=decDigits n:=by
  unfold itoa
  rw [if_neg (by omega)]
  simp
theorem itoa_nn {x:Int} (h:0≤x):itoa x=decDigits x.toNat:=by
  have:=itoa_nat x.toNat
  rwa [Int.toNat_of_nonneg h] at this
theorem join_nums (w:List UInt8):∀ l:List Int,joinL 32 (w :: l.map itoa)=w ++ numsT l
  | []=>by simp [joinL,numsT]
  | x :: l=>by
    rw [List.map_cons,joinL_cons 32 w (by simp),join_nums (itoa x) l]
    simp [numsT]
theorem numsP_inv {k:Nat}:∀ {ws:List (List UInt8)} {l:List Int},numsP k ws=some l→ws=l.map itoa
  | [],l,h=>by simp [numsP] at h;subst h;rfl
  | x :: ws,l,h=>by
    simp only[numsP] at h
    split at h
    · rename_i n q h1 h2
      cases h
      rw [List.map_cons,itoa_nat,← (numP_some h1).1,← numsP_inv h2]
    · cases h
theorem row_of {k:Nat} {row w:List UInt8} {l:List Int} (h:rowP k row=some (w,l)):row=w ++ numsT l:=by
  unfold rowP at h
  split at h
  · cases h
  · rename_i w' ws hw
    cases hn:numsP k ws with
    | none=>rw [hn] at h;cases h
    | some r =>
      rw [hn] at h
      injection h with h
      injection h with h1 h2
      subst h1;subst h2
      rw [← join_nums,← numsP_inv hn,← hw,join_split]
theorem join_rows:∀ rs:List (List UInt8),joinL 10 (rs ++ [[]])=rs.flatMap (· ++ [10])
  | []=>rfl
  | r :: rs=>by
    rw [List.cons_append,joinL_cons 10 r (by simp),join_rows rs]
    simp
theorem dec_len:∀ (k u:Nat),u < 10 ^ (k+1)→(decDigits u).length≤k+1
  | 0,u,h=>by rw [dS (by simpa using h)];simp
  | k+1,u,h=>by
    by_cases h1:u < 10
    · rw [dS h1];simp
    · rw [dB h1,List.length_append,List.length_singleton]
      have:=dec_len k (u / 10) (by rw [Nat.pow_succ] at h;omega)
      omega
def nth (l:List Int) (i:Nat):Int:=l.getD i 0
theorem numsP_len {k:Nat}:∀ {l:List (List UInt8)} {r:List Int},numsP k l=some r→r.length=l.length
  | [],r,h=>by simp [numsP] at h;subst h;rfl
  | y :: l,r,h=>by
    simp only[numsP] at h
    split at h
    · rename_i n q h1 h2
      cases h
      rw [List.length_cons,List.length_cons,numsP_len h2]
    · cases h
end Go.Proofs.YthpkmcjiobnpgaaGreatDoor

namespace Go.Proofs.YthpkmcjiobnpgaaGreatDoor
open Go.Av
attribute [local irreducible] thenA blockA awp awpOps awpD awp1
set_option maxHeartbeats 8000000
set_option maxRecDepth 20000
def loadsE (f:Fl):List Ld→Int
  | []=>0
  | x :: l=>if loadE f x ≠ 0 then loadE f x else loadsE f l
def chkE (f:Fl):Int :=
  if ¬ (1≤f.len∧f.len≤3000) then 2 else if ¬ (1≤f.wid∧f.wid≤1000) then 2 else if ¬ (0≤f.front∧f.front≤f.len∧0≤f.rear∧f.rear≤f.len) then 2
  else if f.front ≥ f.rear then 9 else if ¬ (0≤f.turn∧f.turn≤20000) then 2 else if ¬ (0≤f.kilos∧f.kilos≤100000) then 2 else if ¬ (0≤f.mid∧f.mid≤f.len) then 2
  else if ¬ (0≤f.high∧f.high≤2000) then 2 else if (f.loads.length:Int) > 20 then 5 else loadsE f f.loads
theorem c27 (f:Fl):Pure Tryz.prog 27 [f.av] (fun v=>v=.int .i64 (chkE f)):=by
  intro h
  refine ACalls.forget (ACalls.of tab mixed Tryz.call27 Tryz.func27 rfl (fi:=⟨74,[4],[1,9,14,23,35,40,47,52],none,[]⟩) rfl rfl (Nat.le_of_ble_eq_true rfl) (by decide) ?_)
  unfold startA
  try simp only[go_sem]
  repeat' (first|refine st_seq_reg rfl (by first|(simp only[go_sem];rfl)|rfl) (by first|(simp only[go_sem];rfl)|rfl) ?_|refine st_reg rfl (by first|(simp only[go_sem];rfl)|rfl) (by first|(simp only[go_sem];rfl)|rfl) ?_|refine st_op ?_|refine st_det rfl (by simp (disch:=omega) only[go_sem,wr_i64,if_yes,if_no,↓reduceIte,reduceAdd,reduceMul,reduceEqDiff,Nat.reduceBEq,reduceLeDiff];rfl) ?_|(refine st_pureE (by first|(simp (disch:=omega) only[go_sem];rfl)|rfl) rfl (c49a _ _ _) (by first|(simp only[go_sem];rfl)|rfl) (by intro n;first|(simp (disch:=omega) only[go_sem];rfl)|rfl) ?_;intro n hn)|(refine st_pureE (by first|(simp (disch:=omega) only[go_sem];rfl)|rfl) rfl (c49b _ _ _ _) (by first|(simp only[go_sem];rfl)|rfl) (by intro n;first|(simp (disch:=omega) only[go_sem];rfl)|rfl) ?_;intro n hn)|refine st_condT rfl ?_|(refine st_condS rfl ?_ ?_ <;> intro hg <;> (try simp only[decide_eq_true_eq,decide_eq_false_iff_not,Bool.not_eq_true',Bool.not_eq_false'] at hg))|refine st_nil ?_|refine st_tN ?_|refine st_seq ?_|refine st_block ?_|refine st_skip ?_|refine st_ret ?_|refine st_tR ?_|refine st_bN ?_|refine st_bR ?_)
  case' refine_2.refine_2.refine_2.refine_2.refine_2.refine_2.refine_2.refine_2.refine_2 =>
    refine st_loopC (α:=Nat) tab mixed [] [] (by repeat (first|exact trivial|refine ⟨rfl,?_⟩)) [] [] (by repeat (first|exact trivial|refine ⟨rfl,?_⟩)) (fun i=>[(63,.int .i64 i)]) [(1,_),(2,_),(61,_),(62,_)] (fun _=>[]) [] (fun i=>i≤f.loads.length∧loadsE f (f.loads.drop i)=loadsE f f.loads) (fun i=>f.loads.length - i) (by decide) 0 ⟨by omega,rfl⟩ (by (try simp only[go_sem]);repeat' (first|exact trivial|refine And.intro ?_ ?_|rfl|(simp (disch:=omega) only[go_sem,if_yes,if_no,↓reduceIte,reduceAdd,reduceMul,reduceEqDiff,Nat.reduceBEq,reduceLeDiff];rfl)|(simp (disch:=omega) only[go_sem,if_yes,if_no,↓reduceIte,reduceAdd,reduceMul,reduceEqDiff,Nat.reduceBEq,reduceLeDiff]))) (by (try simp only[go_sem]);repeat' (first|exact trivial|refine And.intro ?_ ?_|rfl|(simp (disch:=omega) only[go_sem,if_yes,if_no,↓reduceIte,reduceAdd,reduceMul,reduceEqDiff,Nat.reduceBEq,reduceLeDiff];rfl)|(simp (disch:=omega) only[go_sem,if_yes,if_no,↓reduceIte,reduceAdd,reduceMul,reduceEqDiff,Nat.reduceBEq,reduceLeDiff]))) (by first|(simp only[go_sem];rfl)|rfl) (by intro n;simp only[go_sem];rfl) ?_
    rintro i c ⟨hi',hall⟩ hc
    simp only[go_sem]
    repeat' (first|refine st_seq_reg rfl (by first|(simp only[go_sem];rfl)|rfl) (by first|(simp only[go_sem];rfl)|rfl) ?_|refine st_reg rfl (by first|(simp only[go_sem];rfl)|rfl) (by first|(simp only[go_sem];rfl)|rfl) ?_|refine st_op ?_|refine st_det rfl (by simp (disch:=omega) only[go_sem,wr_i64,if_yes,if_no,↓reduceIte,reduceAdd,reduceMul,reduceEqDiff,Nat.reduceBEq,reduceLeDiff];rfl) ?_|refine st_loc rfl (by simp (disch:=omega) only[go_sem,wr_i64,if_yes,if_no,↓reduceIte,reduceAdd,reduceMul,reduceEqDiff,Nat.reduceBEq,reduceLeDiff];rfl) ?_|refine st_store (by simp (disch:=omega) only[go_sem,wr_i64,if_yes,if_no,↓reduceIte,reduceAdd,reduceMul,reduceEqDiff,Nat.reduceBEq,reduceLeDiff];rfl) ?_|(refine st_pureE (by first|(simp (disch:=omega) only[go_sem];rfl)|rfl) rfl (c56 f (ld f.loads i)) (by first|(simp only[go_sem];rfl)|rfl) (by intro n;first|(simp (disch:=omega) only[go_sem];rfl)|rfl) ?_;intro n hn)|(refine st_condS rfl ?_ ?_ <;> intro hg <;> (try simp only[decide_eq_true_eq,decide_eq_false_iff_not,Bool.not_eq_true',Bool.not_eq_false'] at hg))|refine st_nil ?_|refine st_tN ?_|refine st_seq ?_|refine st_block ?_|refine st_skip ?_|refine st_exit ?_|refine st_ret ?_|refine st_tE ?_|refine st_tR ?_|refine st_bN ?_|refine st_bR ?_|refine st_bH ?_)
    · simp (disch:=omega) only[AEnd,Tryz.results27,aresK,fin,go_sem,↓reduceIte,reduceEqDiff,reduceAdd,reduceLeDiff,if_yes,if_no,implies_true,true_and,and_true,List.reverse_cons,List.reverse_nil]
      rw [drop_ld (by omega)] at hall
      rw [loadsE,if_pos (by assumption)] at hall
      simp [chkE] <;> omega
    · refine ⟨i+1,⟨by omega,by rw [drop_ld (by omega),loadsE,if_neg (by assumption)] at hall;exact hall⟩,by omega,(by repeat' (first|exact trivial|refine And.intro ?_ ?_|rfl|(simp (disch:=omega) only[go_sem,if_yes,if_no,↓reduceIte,reduceAdd,reduceMul,reduceEqDiff,Nat.reduceBEq,reduceLeDiff];rfl)|(simp (disch:=omega) only[go_sem,if_yes,if_no,↓reduceIte,reduceAdd,reduceMul,reduceEqDiff,Nat.reduceBEq,reduceLeDiff]))),(by repeat' (first|exact trivial|refine And.intro ?_ ?_|rfl|(simp (disch:=omega) only[go_sem,if_yes,if_no,↓reduceIte,reduceAdd,reduceMul,reduceEqDiff,Nat.reduceBEq,reduceLeDiff];rfl)|(simp (disch:=omega) only[go_sem,if_yes,if_no,↓reduceIte,reduceAdd,reduceMul,reduceEqDiff,Nat.reduceBEq,reduceLeDiff]))),rfl,(by first|exact HOld.of _ (by omega)|exact HOld.put _ _ _ (by omega))⟩
    · simp (disch:=omega) only[AEnd,Tryz.results27,aresK,fin,go_sem,↓reduceIte,reduceEqDiff,reduceAdd,reduceLeDiff,if_yes,if_no,implies_true,true_and,and_true,List.reverse_cons,List.reverse_nil]
      rw [List.drop_eq_nil_of_le (by omega),loadsE] at hall
      simp [chkE] <;> omega
  all_goals
    simp (disch:=omega) only[AEnd,Tryz.results27,aresK,fin,go_sem,↓reduceIte,reduceEqDiff,reduceAdd,reduceLeDiff,if_yes,if_no,implies_true,true_and,and_true,List.reverse_cons,List.reverse_nil]
    simp [chkE] <;> omega
end Go.Proofs.YthpkmcjiobnpgaaGreatDoor

namespace Go.Proofs.YthpkmcjiobnpgaaGreatDoor
open Go.Av Go.Txt Go.Lib
set_option maxRecDepth 20000
def wFloat:List UInt8:=[102,108,111,97,116]
def wLoad:List UInt8:=[108,111,97,100]
def wEnd:List UInt8:=[101,110,100]
def flN (f:Fl):List Int:=[f.len,f.wid,f.front,f.rear,f.turn,f.kilos,f.mid,f.high]
def ldN (x:Ld):List Int:=[x.at_,x.lo,x.hi,x.tlo,x.thi,x.kind,x.watts]
def ldT (x:Ld):List UInt8:=rowT wLoad (ldN x)
def cardT (f:Fl):List UInt8:=rowT wFloat (flN f) ++ f.loads.flatMap ldT ++ rowT wEnd [(f.loads.length:Int)]
def wrV (f:Fl):AV:=if chkE f=0 then .tup [.str (cardT f),.int .i64 0] else .tup [.str [],.int .i64 (chkE f)]
structure FSt where
  f:Fl
  e:Bool
def flOf (l:List Int):Fl:=⟨nth l 0,nth l 1,nth l 2,nth l 3,nth l 4,nth l 5,nth l 6,nth l 7,[]⟩
def ldOf (l:List Int):Ld:=⟨nth l 0,nth l 1,nth l 2,nth l 3,nth l 4,nth l 5,nth l 6⟩
def Fl.more (f:Fl) (l:List Ld):Fl:={ f with loads:=f.loads ++ l }
def stepF (i:Nat) (st:FSt) (w:List UInt8) (l:List Int):Option FSt :=
  if st.e=true then none
  else if ¬ ((w=wFloat∧l.length=8) ↔ i=0) then none
  else if w=wFloat∧l.length=8 then some ⟨flOf l,st.e⟩
  else if w=wLoad∧l.length=7 then some ⟨st.f.more [ldOf l],st.e⟩
  else if w=wEnd∧l.length=1∧nth l 0=st.f.loads.length then some ⟨st.f,true⟩
  else none
def stepR (i:Nat) (st:FSt) (row:List UInt8):Option FSt:=match rowP 7 row with
  | none=>none
  | some (w,l)=>stepF i st w l
def runR:Nat→FSt→List (List UInt8)→Nat ⊕ FSt
  | _,st,[]=>.inr st
  | i,st,r :: rs=>match stepR i st r with
    | none=>.inl (i+1)
    | some st'=>runR (i+1) st' rs
def f0:Fl:=⟨0,0,0,0,0,0,0,0,[]⟩
def st0:FSt:=⟨f0,false⟩
def badV (k:Nat) (e:Int):AV:=.tup [f0.av,.int .i64 (k:Nat),.int .i64 e]
def rdV (text:List UInt8):AV :=
  if 3000 < text.length then badV 0 6 else
  match runR 0 st0 ((splitL 10 text).take ((splitL 10 text).length - 1)) with
  | .inl k=>badV k 1
  | .inr st =>
    if st.e=false then badV (splitL 10 text).length 1
    else if (splitL 10 text).getD ((splitL 10 text).length - 1) [] ≠ [] then badV (splitL 10 text).length 1
    else if chkE st.f ≠ 0 then badV 0 (chkE st.f)
    else .tup [st.f.av,.int .i64 0,.int .i64 0]
theorem run_drop {i:Nat} {st:FSt} {l:List (List UInt8)} (h:i < l.length):runR i st (l.drop i)=match stepR i st (l.getD i []) with
    | none=>.inl (i+1)
    | some st'=>runR (i+1) st' (l.drop (i+1)):=by
  rw [List.drop_eq_getElem_cons h,runR,List.getD_eq_getElem?_getD,List.getElem?_eq_getElem h]
  rfl
def Sm (l:List Int):Prop:=∀ x ∈ l,0≤x∧x < 10000000
theorem loadE_bd {f:Fl} {x:Ld} (h:loadE f x=0) (h1:0≤f.front) (h2:f.rear≤3000):Sm (ldN x):=by
  unfold loadE spanE at h
  intro y hy
  simp only[ldN,List.mem_cons,List.not_mem_nil,or_false] at hy
  repeat' split at h
  all_goals try (exfalso;omega)
  all_goals rcases hy with rfl|rfl|rfl|rfl|rfl|rfl|rfl <;> omega
theorem loadsE_mem {f:Fl}:∀ {l:List Ld},loadsE f l=0→∀ x ∈ l,loadE f x=0
  | [],_,x,hx=>by cases hx
  | y :: l,h,x,hx=>by
    unfold loadsE at h
    split at h
    · rename_i h1;exact absurd h h1
    · rename_i h1
      rcases List.mem_cons.1 hx with rfl|hx
      · omega
      · exact loadsE_mem h x hx
theorem chk_bd {f:Fl} (h:chkE f=0):Sm (flN f)∧f.loads.length≤20∧∀ y ∈ f.loads,Sm (ldN y):=by
  unfold chkE at h
  repeat' split at h
  all_goals try (exfalso;omega)
  refine ⟨?_,by omega,fun y hy=>loadE_bd (loadsE_mem h y hy) (by omega) (by omega)⟩
  intro y hy
  simp only[flN,List.mem_cons,List.not_mem_nil,or_false] at hy
  rcases hy with rfl|rfl|rfl|rfl|rfl|rfl|rfl|rfl <;> omega
theorem Sm.dec {l:List Int} (h:Sm l):∀ x ∈ l,0≤x∧(decDigits x.toNat).length≤7:=fun x hx=>⟨(h x hx).1,dec_len 6 _ (by have:=h x hx;omega)⟩
theorem numsT_sm:∀ {l:List Int},Sm l→(numsT l).length≤8 * l.length
  | [],_=>by simp [numsT]
  | x :: l,h=>by
    have h1:=Sm.dec h x (by simp)
    have h2:=numsT_sm (l:=l) (fun y hy=>h y (by simp [hy]))
    unfold numsT at h2 ⊢
    rw [List.flatMap_cons,List.length_append,List.length_cons,List.length_cons,itoa_nn h1.1]
    omega
theorem rowT_sm {w:List UInt8} {l:List Int} (h:Sm l):(rowT w l).length≤w.length+8 * l.length+1:=by
  have:=numsT_sm h
  unfold rowT
  simp only[List.length_append,List.length_cons,List.length_nil]
  omega
theorem flat_take {α:Type} {f:α→List UInt8} {l:List α} {d:α} {i:Nat} (h:i < l.length):(l.take (i+1)).flatMap f=(l.take i).flatMap f ++ f (l.getD i d):=by
  rw [List.take_add_one,List.flatMap_append,List.getElem?_eq_getElem h,List.getD_eq_getElem?_getD,List.getElem?_eq_getElem h]
  simp
theorem flat_len {α:Type} {f:α→List UInt8} {n:Nat} {l:List α} (h:∀ x ∈ l,(f x).length≤n):(l.flatMap f).length≤n * l.length:=by
  induction l with
  | nil=>simp
  | cons x l ih =>
    have h1:=h x (by simp)
    have h2:=ih (fun y hy=>h y (by simp [hy]))
    rw [List.flatMap_cons,List.length_append,List.length_cons,Nat.mul_succ]
    omega
theorem ldT_len {x:Ld} (h:Sm (ldN x)):(ldT x).length≤70:=by
  have:=rowT_sm (w:=wLoad) h
  have e:wLoad.length=4:=rfl
  have e2:(ldN x).length=7:=rfl
  unfold ldT;omega
theorem Sm.ok {l:List Int} (h:Sm l) (hl:l.length≤1000):NumOk l:=⟨by omega,fun x hx=>by have:=h x hx;omega⟩
theorem sm_len {n:Nat} (h:n≤20):Sm [(n:Int)]:=by intro x hx;simp at hx;omega
theorem card_len {f:Fl} (hE:chkE f=0):(cardT f).length≤1600:=by
  obtain ⟨h1,h2,h3⟩:=chk_bd hE
  have k1:=rowT_sm (w:=wFloat) h1
  have k2:(f.loads.flatMap ldT).length≤70 * f.loads.length:=flat_len (fun x hx=>ldT_len (h3 x hx))
  have k3:=rowT_sm (w:=wEnd) (sm_len h2)
  have e1:wFloat.length=5:=rfl
  have e2:wEnd.length=3:=rfl
  have e3:(flN f).length=8:=rfl
  have e4:([(f.loads.length:Int)]:List Int).length=1:=rfl
  unfold cardT
  simp only[List.length_append]
  omega
def flR (f:Fl):List UInt8:=wFloat ++ numsT (flN f)
def ldR (x:Ld):List UInt8:=wLoad ++ numsT (ldN x)
def enR (n:Nat):List UInt8:=wEnd ++ numsT [(n:Int)]
def rowsC (f:Fl):List (List UInt8):=flR f :: (f.loads.map ldR ++ [enR f.loads.length])
theorem card_flat (f:Fl):cardT f=(rowsC f).flatMap (· ++ [10]):=by
  unfold cardT rowsC flR enR
  simp only[List.flatMap_cons,List.flatMap_append,List.flatMap_map,List.flatMap_nil,List.append_nil]
  unfold rowT
  have e2:f.loads.flatMap ldT=f.loads.flatMap fun a=>ldR a ++ [10]:=rfl
  rw [e2]
  simp
theorem ldN_ldOf {l:List Int} (h:l.length=7):ldN (ldOf l)=l:=by
  match l,h with
  | [a,b,c,d,e,f,g],_=>rfl
theorem flN_flOf {l:List Int} (h:l.length=8):flN (flOf l)=l:=by
  match l,h with
  | [a,b,c,d,e,f,g,k],_=>rfl
theorem run_e:∀ {rs:List (List UInt8)} {i:Nat} {st st':FSt},runR i st rs=.inr st'→st.e=true→rs=[]∧st'=st
  | [],i,st,st',h,_=>by simp only[runR] at h;injection h with h;exact ⟨rfl,h.symm⟩
  | r :: rs,i,st,st',h,he=>by
    have:stepR i st r=none:=by
      unfold stepR
      split
      · rfl
      · unfold stepF;rw [if_pos he]
    rw [runR,this] at h
    cases h
theorem run_inv:∀ {rs:List (List UInt8)} {i:Nat} {st st':FSt},runR i st rs=.inr st'→st.e=false→st'.e=true→i ≠ 0 →
    ∃ l2,rs=l2.map ldR ++ [enR (st.f.loads ++ l2).length]∧st'.f=st.f.more l2
  | [],i,st,st',h,he,he',_=>by
    simp only[runR] at h;injection h with h;rw [h] at he;rw [he] at he';cases he'
  | r :: rs,i,st,st',h,he,he',hi=>by
    rw [runR] at h
    cases hp:rowP 7 r with
    | none =>
      have:stepR i st r=none:=by unfold stepR;rw [hp]
      rw [this] at h;cases h
    | some wl =>
      obtain ⟨w,l⟩:=wl
      have hr:=row_of hp
      have hst:stepR i st r=stepF i st w l:=by unfold stepR;rw [hp]
      unfold stepF at hst
      rw [if_neg (by simp [he])] at hst
      by_cases h0:w=wFloat∧l.length=8
      · rw [if_pos (by simp [h0,hi])] at hst
        rw [hst] at h;cases h
      rw [if_neg (by simp [h0,hi]),if_neg h0] at hst
      by_cases h1:w=wLoad∧l.length=7
      · rw [if_pos h1] at hst
        rw [hst] at h
        simp only at h
        obtain ⟨l2,q1,q2⟩:=run_inv h (by exact he) he' (Nat.succ_ne_zero i)
        refine ⟨ldOf l :: l2,?_,by rw [q2];simp [Fl.more]⟩
        rw [q1,hr,h1.1,List.map_cons,ldR,ldN_ldOf h1.2]
        simp [Fl.more]
      rw [if_neg h1] at hst
      by_cases h2:w=wEnd∧l.length=1∧nth l 0=st.f.loads.length
      · rw [if_pos h2] at hst
        rw [hst] at h
        simp only at h
        obtain ⟨e1,e2⟩:=run_e h rfl
        obtain ⟨e3,e4,e5⟩:=h2
        refine ⟨[],?_,by rw [e2];simp [Fl.more]⟩
        rw [e1,hr,e3]
        match l,e4 with
        | [a],_ =>
          have e6:a=st.f.loads.length:=e5
          rw [e6];simp [enR]
      rw [if_neg h2] at hst
      rw [hst] at h;cases h
theorem rd_inv (text:List UInt8):(∃ k e,rdV text=badV k e∧e ≠ 0) ∨ ∃ f:Fl,rdV text=.tup [f.av,.int .i64 0,.int .i64 0]∧chkE f=0∧cardT f=text:=by
  obtain ⟨rows,hrows⟩:∃ rows,rows=splitL 10 text:=⟨_,rfl⟩
  obtain ⟨nb,hnb⟩:∃ nb,nb=rows.length - 1:=⟨_,rfl⟩
  have hr1:1≤rows.length:=by rw [hrows];exact List.length_pos_iff.2 (splitL_ne _ _)
  unfold rdV
  by_cases h1:3000 < text.length
  · rw [if_pos h1];exact .inl ⟨_,_,rfl,by decide⟩
  rw [if_neg h1,← hrows,← hnb]
  cases hrun:runR 0 st0 (rows.take nb) with
  | inl k=>exact .inl ⟨_,_,rfl,by decide⟩
  | inr st =>
    simp only
    by_cases he:st.e=false
    · rw [if_pos he];exact .inl ⟨_,_,rfl,by decide⟩
    rw [if_neg he]
    by_cases hla:rows.getD nb [] ≠ []
    · rw [if_pos hla];exact .inl ⟨_,_,rfl,by decide⟩
    rw [if_neg hla]
    by_cases hE:chkE st.f ≠ 0
    · rw [if_pos hE];exact .inl ⟨_,_,rfl,hE⟩
    rw [if_neg hE]
    refine .inr ⟨st.f,rfl,by simpa using hE,?_⟩
    have hla:rows.getD nb []=[]:=by simpa using hla
    have he:st.e=true:=by simpa using he
    have hrl:rows=rows.take nb ++ [[]]:=by
      have e:=(List.take_append_drop nb rows).symm
      have e2:rows.drop nb=[[]]:=by
        rw [List.drop_eq_getElem_cons (by omega),List.drop_eq_nil_of_le (by omega)]
        rw [List.getD_eq_getElem?_getD,List.getElem?_eq_getElem (by omega)] at hla
        simpa using hla
      rw [e2] at e;exact e
    have htext:text=(rows.take nb).flatMap (· ++ [10]):=by
      rw [← join_rows,← hrl,hrows,join_split]
    rw [card_flat,htext]
    congr 1
    cases hb:rows.take nb with
    | nil =>
      rw [hb] at hrun
      simp only[runR] at hrun
      injection hrun with hrun
      rw [← hrun] at he
      cases he
    | cons r rs =>
      rw [hb,runR] at hrun
      cases hp:rowP 7 r with
      | none =>
        have:stepR 0 st0 r=none:=by unfold stepR;rw [hp]
        rw [this] at hrun;cases hrun
      | some wl =>
        obtain ⟨w,l⟩:=wl
        have hr:=row_of hp
        have hst:stepR 0 st0 r=stepF 0 st0 w l:=by unfold stepR;rw [hp]
        unfold stepF at hst
        rw [if_neg (by simp [st0])] at hst
        by_cases h0:w=wFloat∧l.length=8
        · rw [if_neg (by simp [h0]),if_pos h0] at hst
          rw [hst] at hrun
          simp only at hrun
          obtain ⟨l2,q1,q2⟩:=run_inv hrun rfl he (by decide)
          have q3:st.f={ flOf l with loads:=l2 }:=by rw [q2];rfl
          have q4:flN st.f=l:=by
            have:=flN_flOf h0.2
            rw [q3];exact this
          have q5:st.f.loads=l2:=by rw [q3]
          unfold rowsC flR
          rw [q1,q4,q5,hr,h0.1]
          rfl
        · rw [if_pos (by simp [h0])] at hst
          rw [hst] at hrun;cases hrun
end Go.Proofs.YthpkmcjiobnpgaaGreatDoor
