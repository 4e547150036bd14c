/- Answers that hold a list of one's own among values that stand for themselves; rows of texts, taken apart (plain). -/
import Derived.Test.YtaijkalhkgjakaaGreatDoorF1
import Derived.Test.YtaijkalhkgjakaaGreatDoorW3
set_option linter.all false
set_option linter.unusedSimpArgs false
set_option linter.unusedVariables false
namespace Go.Av
theorem VLes.mid {pre post:List AV} {v v':AV} (h:VLe v v'):VLes (pre ++ v :: post) (pre ++ v' :: post):=by
 induction pre with
 | nil=>simp only[List.nil_append,VLes];exact ⟨_,_,rfl,h,VLes.refl _⟩
 | cons x pre ih=>simp only[List.cons_append,VLes];exact ⟨_,_,rfl,VLe.refl _,ih⟩
theorem frzs_app (b:Bid) (k:Blk):∀ (l r:List AV),frzs b k (l ++ r)=frzs b k l ++ frzs b k r
 | [],r=>by simp only[List.nil_append,frzs]
 | x :: l,r=>by simp only[List.cons_append,frzs,frzs_app b k l r]
theorem SlA.ansT {h g:AH} {v:AV} {z:Nat} {l:List (List AV)} {R:AV→Prop} (pre post:List AV) (hp:∀ b k,frzs b k pre=pre) (hq:∀ b k,frzs b k post=post) (hS:SlA h.clk g v z l) (hR:R (.tup (pre ++ .lst z l :: post))) :
  (∃ v',VLe (.tup (pre ++ v :: post)) v'∧R v') ∨ ∃ b2 k',h.clk≤b2.1∧g.at_ b2=some k'∧R (frz b2 k' (.tup (pre ++ v :: post))):=by
 rcases hS with ⟨rfl,rfl⟩|⟨b1,rfl,h2,h3,h4⟩
 ·exact .inl ⟨_,VLe.tup (VLes.mid (VLe.nils z)),hR⟩
 ·refine .inr ⟨b1,_,h3,h2,?_⟩
  have e:=frz_lst (b:=b1) (z:=z) (l:=l)
  simp only[frz,frzs_app,frzs,hp,hq] at e ⊢
  rw [e];exact hR
end Go.Av
namespace Go.Av
variable {P:Program}
theorem ASem.cutWg {r:Option Nat} {n:Nat} {code:Code} {Q:Exit→AS→Prop} {T:Nat→AV} {B:Bid→Option (List AV)} {M:List Nat} {H:AH} (id:Bid) (pre post:List AV) (v:AV) (z:Nat) (l:List (List AV)) {h0:Nat} (hB:B id=some (pre ++ v :: post)) (hS:SlA h0 H v z l)
  (hst:∀ b m,v=.slc b z 0 m→frzs b ⟨z,l⟩ pre=pre∧frzs b ⟨z,l⟩ post=post)
  (h:∀ H',(∀ b',(∀ m,v ≠ .slc b' z 0 m)→H'.at_ b'=H.at_ b')→H'.clk=H.clk→H'.lp=H.lp→H'.gl=H.gl→ASem P r n code Q ⟨T,upd B id (some (pre ++ .lst z l :: post)),M,H'⟩):ASem P r n code Q ⟨T,B,M,H⟩:=by
 refine ASem.cutXg id (fun b=>∃ m,v=.slc b z 0 m) (cs':=pre ++ .lst z l :: post) hB ?_ fun H' h1 h2 h3 h4=>h H' (fun b' hb'=>h1 b' fun ⟨m,e⟩=>hb' m e) h2 h3 h4
 rcases hS with ⟨rfl,rfl⟩|⟨b1,rfl,h2,h3,h4⟩
 ·exact .inl ⟨VLes.pre (VLe.nils z),fun hall=>by simpa [AV.cell] using hall⟩
 ·obtain ⟨e1,e2⟩:=hst b1 _ rfl
  refine .inr ⟨b1,_,h2,?_,_,rfl⟩
  rw [frzs_app,e1]
  simp only[frzs,e2]
  rw [frz_lst]
def Dis (z z':Nat) (v v':AV):Prop:=∀ b m m',v=.slc b z 0 m→v'=.slc b z' 0 m'→False
theorem Dis.frz {z z':Nat} {v v':AV} {h0:Nat} {g:AH} {l':List (List AV)} (hd:Dis z z' v v') (hS:SlA h0 g v' z' l'):∀ b m k,v=.slc b z 0 m→frz b k v'=v':=by
 intro b m k e
 rcases hS with ⟨rfl,_⟩|⟨b2,rfl,_⟩
 ·rfl
 ·have hne:¬ b2=b:=fun q=>hd b m _ e (by rw [q])
  simp only[Av.frz,if_neg (fun q:b2=b∧_=>hne q.1)]
end Go.Av
namespace Go.Txt
open Go.Lib
def numsP (k:Nat):List (List UInt8)→Option (List Int)
 | []=>some []
 | x :: l=>match numP k x,numsP k l with
  | some n,some r=>some ((n:Int) :: r)
  | _,_=>none
theorem numsP_snoc {k:Nat} {x:List UInt8}:∀ {l:List (List UInt8)},numsP k (l ++ [x])=match numsP k l,numP k x with
  | some r,some n=>some (r ++ [(n:Int)])
  | _,_=>none
 | []=>by
  simp only[List.nil_append,numsP]
  cases numP k x <;> rfl
 | y :: l=>by
  simp only[List.cons_append,numsP,numsP_snoc (l:=l)]
  cases numP k y <;> cases numsP k l <;> cases numP k x <;> rfl
theorem numsP_bad {k:Nat}:∀ {l r:List (List UInt8)},numsP k l=none→numsP k (l ++ r)=none
 | [],r,h=>by simp [numsP] at h
 | y :: l,r,h=>by
  simp only[List.cons_append,numsP] at h ⊢
  cases hy:numP k y with
  | none=>rfl
  | some n =>
   rw [hy] at h
   cases hl:numsP k l with
   | none=>rw [numsP_bad hl]
   | some q=>rw [hl] at h;cases h
def rowP (k:Nat) (s:List UInt8):Option (List UInt8 × List Int):=match splitL 32 s with
 | []=>none
 | w :: ws=>(numsP k ws).map fun l=>(w,l)
theorem splitL_len (c:UInt8):∀ s,(splitL c s).length≤s.length+1
 | []=>by simp [splitL]
 | b :: s=>by
  obtain ⟨q,qs,h1,h2⟩:=splitL_cons c b s
  have:=splitL_len c s
  rw [h1] at this
  rw [h2]
  split <;> simp at this ⊢ <;> omega
theorem splitL_sub {c:UInt8}:∀ {s r:List UInt8},r ∈ splitL c s→r.length≤s.length
 | [],r,h=>by simp [splitL] at h;subst h;simp
 | b :: s,r,h=>by
  obtain ⟨q,qs,h1,h2⟩:=splitL_cons c b s
  have ih:=fun {x} hx=>splitL_sub (c:=c) (s:=s) (r:=x) (by rw [h1];exact hx)
  rw [h2] at h
  split at h
  ·simp at h
   rcases h with rfl|h
   ·simp
   ·have:=ih (x:=r) (by simpa using h);simp;omega
  ·simp at h
   rcases h with rfl|h
   ·have:=ih (x:=q) (by simp);simp;omega
   ·have:=ih (x:=r) (by simp [h]);simp;omega
theorem atoi_bd {l:List UInt8} {v:Int} (h:atoiAll l=.ok v):-9223372036854775808≤v∧v≤9223372036854775807:=by
 unfold atoiAll at h
 split at h
 ·cases h
 ·dsimp only at h
  split at h
  ·cases h
  ·cases h
  ·split at h
   ·cases h
   ·split at h
    ·cases h
    ·rename_i h1 h2
     injection h with h
     split at h <;> omega
end Go.Txt

namespace Go.Proofs.YtaijkalhkgjakaaGreatDoor
open Go.Av Go.Txt Go.Lib
attribute [local irreducible] thenA blockA awp awpOps awpD awp1
attribute [local go_sem_proc] Nat.reduceAdd Nat.reduceMul Nat.reduceEqDiff Nat.reduceBEq Nat.reduceLeDiff
attribute [local go_sem_proc ↓] reduceIte
attribute [local go_sem] if_yes if_no
set_option maxHeartbeats 8000000
set_option maxRecDepth 20000
def parV (k:Nat) (s:List UInt8):AV:=match rowP k s with
 | some (w,l)=>.tup [.str w,.lst 1 (l.map iv),.bool true]
 | none=>.tup [.str [],.lst 1 [],.bool false]
structure PaS where
 i:Nat
 v:AV
 ns:List Int
 g:AH
theorem strs_getD {l:List (List UInt8)} {i:Nat} (h:i < l.length):(strs l).getD i []=[.str (l.getD i [])]:=by
 unfold strs
 rw [List.getD_eq_getElem?_getD,List.getElem?_map,List.getElem?_eq_getElem h,List.getD_eq_getElem?_getD,List.getElem?_eq_getElem h];rfl
theorem strs_len (l:List (List UInt8)):(strs l).length=l.length:=List.length_map _
theorem str_mem {l:List (List UInt8)} {i:Nat} (h:i < l.length):l.getD i [] ∈ l:=by
 rw [List.getD_eq_getElem?_getD,List.getElem?_eq_getElem h];exact List.getElem_mem h
theorem take_str {l:List (List UInt8)} {i:Nat} (h:i < l.length):l.take (i+1)=l.take i ++ [l.getD i []]:=by
 rw [List.take_add_one,List.getElem?_eq_getElem h,List.getD_eq_getElem?_getD,List.getElem?_eq_getElem h];rfl
theorem c87 (s:List UInt8) (hs:s.length≤1000000):PureG gT Tryz.prog 87 [.str s] (fun v=>v=parV 3 s):=by
 refine PureG.give Tryz.call87 fun h hgl hold=>?_
 obtain ⟨w,ws,hw⟩:∃ w ws,splitL 32 s=w :: ws:=by
  cases e:splitL 32 s with
  | nil=>exact absurd e (splitL_ne _ _)
  | cons w ws=>exact ⟨w,ws,rfl⟩
 have hlen:=splitL_len 32 s
 rw [hw,List.length_cons] at hlen
 have hsub:∀ x ∈ ws,x.length≤1000000:=fun x hx=>Nat.le_trans (splitL_sub (by rw [hw];exact List.mem_cons_of_mem _ hx)) hs
 have k86:=c86 s 32 (by omega)
 rw [hw] at k86
 have eD:List.take (ws.length+1 - Int.toNat 1) (List.drop (Int.toNat 1) (strs (w :: ws)))=strs ws:=by
  show List.take (ws.length+1 - 1) (strs ws)=strs ws
  rw [Nat.add_sub_cancel]
  exact List.take_of_length_le (by rw [strs_len];exact Nat.le_refl _)
 refine ACalls.of tab mixed Tryz.call87 Tryz.func87 rfl (fi:=⟨51,[],[44],none,[]⟩) rfl rfl (Nat.le_of_ble_eq_true rfl) (by decide) ?_
 unfold startA
 try simp only[go_sem]
 repeat' (first|refine st_seq_reg rfl (by first|(simp only[go_sem,strs_len,List.length_cons];rfl)|rfl) (by first|(simp only[go_sem,strs_len,List.length_cons];rfl)|rfl) ?_|refine st_op ?_|refine st_det rfl (by simp (disch:=omega) only[go_sem,wr_i64,strs_len,List.length_cons];rfl) ?_|(refine st_pureGE (by first|(simp (disch:=omega) only[go_sem,strs_len,List.length_cons];rfl)|rfl) rfl (k86) (by exact hgl) (by first|(simp only[go_sem,strs_len,List.length_cons];rfl)|rfl) (by intro n;first|(simp (disch:=omega) only[go_sem];rfl)|rfl) ?_;intro n hn)|refine st_nil ?_|refine st_seq ?_|refine st_block ?_)
 simp only[eD,strs_len]
 have hbad:∀ i,i < ws.length→numP 3 (ws.getD i [])=none→numsP 3 ws=none:=by
  intro i hi hn
  have e:ws=ws.take (i+1) ++ ws.drop (i+1):=(List.take_append_drop _ _).symm
  rw [e]
  refine numsP_bad ?_
  rw [take_str hi,numsP_snoc,hn]
  cases numsP 3 (ws.take i) <;> rfl
 have hrow:∀ l,numsP 3 ws=some l→parV 3 s=.tup [.str w,.lst 1 (l.map iv),.bool true]:=by
  intro l hl
  unfold parV rowP;rw [hw];simp only[hl,Option.map_some]
 have hrow0:numsP 3 ws=none→parV 3 s=.tup [.str [],.lst 1 [],.bool false]:=by
  intro hl
  unfold parV rowP;rw [hw];simp only[hl,Option.map_none]
 refine st_loopH (α:=PaS) tab mixed [] [] (by repeat (first|exact trivial|refine ⟨rfl,?_⟩)) [] [] (by repeat (first|exact trivial|refine ⟨rfl,?_⟩)) (fun a=>[(16,.int .i64 (a.i:Nat)),(6,a.v)]) [(2,_),(3,_),(4,_),(5,_),(14,_),(15,_)] (fun _=>[]) [] (fun a=>a.g) (fun a=>a.i≤ws.length∧numsP 3 (ws.take a.i)=some a.ns∧a.ns.length=a.i∧SlA h.clk a.g a.v 1 (a.ns.map iv)∧(∀ b':Bid,b'.1 < h.clk→a.g.at_ b'=h.at_ b')∧a.g.lp=h.lp∧a.g.gl=gT∧h.clk≤a.g.clk) (fun a=>ws.length - a.i) (by decide) ⟨0,.nils,[],_⟩ (by exact ⟨Nat.zero_le _,rfl,rfl,.inl ⟨rfl,rfl⟩,fun _ _=>rfl,rfl,hgl,by (try simp only[go_sem]);omega⟩) (by (try simp only[go_sem]);repeat' (first|exact trivial|refine And.intro ?_ ?_|rfl|(simp (disch:=omega) only[go_sem,if_yes,if_no,if_no];rfl)|(simp (disch:=omega) only[go_sem,if_yes,if_no,if_no]))) (by (try simp only[go_sem]);repeat' (first|exact trivial|refine And.intro ?_ ?_|rfl|(simp (disch:=omega) only[go_sem,if_yes,if_no,if_no];rfl)|(simp (disch:=omega) only[go_sem,if_yes,if_no,if_no]))) (HOld.refl _) ?_
 rintro ⟨i,v,ns,g⟩ c ⟨hi,hns,hnl,hS,hat,hlp,hgl,hck⟩ hc
 dsimp only at hi hns hnl hS hat hlp hgl hck hc
 simp only[go_sem]
 have hnc:=hS.noL
 by_cases hil:i < ws.length
 case neg =>
  obtain rfl:i=ws.length:=by omega
  rw [List.take_length] at hns
  repeat' (first|refine st_seq_reg rfl (by first|(simp only[go_sem,strs_len,List.length_cons,hnc];rfl)|rfl) (by first|(simp only[go_sem,strs_len,List.length_cons,hnc];rfl)|rfl) ?_|refine st_op ?_|refine st_det rfl (by simp (disch:=omega) only[go_sem,wr_i64,strs_len,List.length_cons,hnc];rfl) ?_|(refine st_condS rfl ?_ ?_ <;> intro hg <;> (try simp only[dcT,dcF,bnT,bnF] at hg))|refine st_nil ?_|refine st_tN ?_|refine st_seq ?_|refine st_block ?_|refine st_skip ?_|refine st_exit ?_|refine st_ret ?_|refine st_tE ?_|refine st_bH ?_)
  all_goals try (exfalso;omega)
  simp (disch:=omega) only[AEnd,Tryz.results87,aresK,fin,go_sem,implies_true,true_and,and_true,List.reverse_cons,List.reverse_nil]
  refine ⟨hnc,hat,hlp,?_⟩
  rw [hrow ns hns]
  exact SlA.ansT (R:=fun v=>v=.tup [.str w,.lst 1 (ns.map iv),.bool true]) [.str w] [.bool true] (fun _ _=>rfl) (fun _ _=>rfl) hS rfl
 obtain ⟨x,hx⟩:∃ x,x=ws.getD i []:=⟨_,rfl⟩
 have hxl:x.length≤1000000:=hx ▸ hsub _ (str_mem hil)
 have hxg:(strs ws).getD i []=[.str x]:=by rw [strs_getD hil,hx]
 have k114:=c114 x (by omega)
 have hn3:=numP_atoi (k:=3) (by decide) x
 have hfail:numP 3 x=none→(∃ v',VLe (.tup [.str [],.nils,.bool false]) v'∧v'=parV 3 s):=fun q =>
  ⟨_,VLe.tup (VLes.mid (pre:=[.str []]) (post:=[.bool false]) (VLe.nils 1)),(hrow0 (hbad i hil (hx ▸ q))).symm⟩
 rcases ha:atoiAll x with z|_|_
 rotate_left 1
 ·
  rw [atoiV,ha] at k114
  rw [ha] at hn3
  repeat' (first|refine st_seq_reg rfl (by first|(simp only[go_sem,strs_len,List.length_cons,hnc,hxg];rfl)|rfl) (by first|(simp only[go_sem,strs_len,List.length_cons,hnc,hxg];rfl)|rfl) ?_|refine st_op ?_|refine st_det rfl (by simp (disch:=omega) only[go_sem,wr_i64,strs_len,List.length_cons,hnc,hxg];rfl) ?_|(refine st_pureGE (by first|(simp (disch:=omega) only[go_sem,strs_len,List.length_cons,hnc,hxg];rfl)|rfl) rfl (k114) (by exact hgl) (by first|(simp only[go_sem,strs_len,List.length_cons,hnc,hxg];rfl)|rfl) (by intro n;first|(simp (disch:=omega) only[go_sem];rfl)|rfl) ?_;intro n hn)|refine st_gF rfl rfl rfl ?_|refine st_condT rfl ?_|(refine st_condS rfl ?_ ?_ <;> intro hg <;> (try simp only[dcT,dcF,bnT,bnF] at hg))|refine st_nil ?_|refine st_tN ?_|refine st_seq ?_|refine st_block ?_|refine st_skip ?_|refine st_exit ?_|refine st_ret ?_|refine st_tE ?_|refine st_tR ?_|refine st_bR ?_|refine st_bH ?_)
  all_goals try (exfalso;omega)
  simp (disch:=omega) only[AEnd,Tryz.results87,aresK,fin,go_sem,implies_true,true_and,and_true,List.reverse_cons,List.reverse_nil]
  exact ⟨hat,hlp,.inl (hfail hn3)⟩
 ·
  rw [atoiV,ha] at k114
  rw [ha] at hn3
  repeat' (first|refine st_seq_reg rfl (by first|(simp only[go_sem,strs_len,List.length_cons,hnc,hxg];rfl)|rfl) (by first|(simp only[go_sem,strs_len,List.length_cons,hnc,hxg];rfl)|rfl) ?_|refine st_op ?_|refine st_det rfl (by simp (disch:=omega) only[go_sem,wr_i64,strs_len,List.length_cons,hnc,hxg];rfl) ?_|(refine st_pureGE (by first|(simp (disch:=omega) only[go_sem,strs_len,List.length_cons,hnc,hxg];rfl)|rfl) rfl (k114) (by exact hgl) (by first|(simp only[go_sem,strs_len,List.length_cons,hnc,hxg];rfl)|rfl) (by intro n;first|(simp (disch:=omega) only[go_sem];rfl)|rfl) ?_;intro n hn)|refine st_gF rfl rfl rfl ?_|refine st_condT rfl ?_|(refine st_condS rfl ?_ ?_ <;> intro hg <;> (try simp only[dcT,dcF,bnT,bnF] at hg))|refine st_nil ?_|refine st_tN ?_|refine st_seq ?_|refine st_block ?_|refine st_skip ?_|refine st_exit ?_|refine st_ret ?_|refine st_tE ?_|refine st_tR ?_|refine st_bR ?_|refine st_bH ?_)
  all_goals try (exfalso;omega)
  simp (disch:=omega) only[AEnd,Tryz.results87,aresK,fin,go_sem,implies_true,true_and,and_true,List.reverse_cons,List.reverse_nil]
  exact ⟨hat,hlp,.inl (hfail hn3)⟩
 ·
  have hbd:=atoi_bd ha
  rw [atoiV,ha] at k114
  rw [ha] at hn3
  simp only at hn3
  have k79:=c79 z hbd.1 hbd.2
  by_cases h1:z < 0
  ·rw [if_pos (.inl h1)] at hn3
   repeat' (first|refine st_seq_reg rfl (by first|(simp only[go_sem,strs_len,List.length_cons,hnc,hxg];rfl)|rfl) (by first|(simp only[go_sem,strs_len,List.length_cons,hnc,hxg];rfl)|rfl) ?_|refine st_op ?_|refine st_det rfl (by simp (disch:=omega) only[go_sem,wr_i64,strs_len,List.length_cons,hnc,hxg];rfl) ?_|(refine st_pureGE (by first|(simp (disch:=omega) only[go_sem,strs_len,List.length_cons,hnc,hxg];rfl)|rfl) rfl (k114) (by exact hgl) (by first|(simp only[go_sem,strs_len,List.length_cons,hnc,hxg];rfl)|rfl) (by intro n;first|(simp (disch:=omega) only[go_sem];rfl)|rfl) ?_;intro n hn)|refine st_gT rfl rfl rfl ?_|refine st_gF rfl rfl rfl ?_|(refine st_gS rfl rfl ?_ ?_ <;> intro hg <;> (try simp only[dcT,dcF,bnT,bnF] at hg))|refine st_condT rfl ?_|(refine st_condS rfl ?_ ?_ <;> intro hg <;> (try simp only[dcT,dcF,bnT,bnF] at hg))|refine st_nil ?_|refine st_tN ?_|refine st_seq ?_|refine st_block ?_|refine st_skip ?_|refine st_exit ?_|refine st_ret ?_|refine st_tE ?_|refine st_tR ?_|refine st_bR ?_|refine st_bH ?_)
   all_goals try (exfalso;omega)
   simp (disch:=omega) only[AEnd,Tryz.results87,aresK,fin,go_sem,implies_true,true_and,and_true,List.reverse_cons,List.reverse_nil]
   exact ⟨hat,hlp,.inl (hfail hn3)⟩
  by_cases h2:3 < x.length
  ·rw [if_pos (.inr (.inl h2))] at hn3
   repeat' (first|refine st_seq_reg rfl (by first|(simp only[go_sem,strs_len,List.length_cons,hnc,hxg];rfl)|rfl) (by first|(simp only[go_sem,strs_len,List.length_cons,hnc,hxg];rfl)|rfl) ?_|refine st_op ?_|refine st_det rfl (by simp (disch:=omega) only[go_sem,wr_i64,strs_len,List.length_cons,hnc,hxg];rfl) ?_|(refine st_pureGE (by first|(simp (disch:=omega) only[go_sem,strs_len,List.length_cons,hnc,hxg];rfl)|rfl) rfl (k114) (by exact hgl) (by first|(simp only[go_sem,strs_len,List.length_cons,hnc,hxg];rfl)|rfl) (by intro n;first|(simp (disch:=omega) only[go_sem];rfl)|rfl) ?_;intro n hn)|refine st_gT rfl rfl rfl ?_|refine st_gF rfl rfl rfl ?_|(refine st_gS rfl rfl ?_ ?_ <;> intro hg <;> (try simp only[dcT,dcF,bnT,bnF] at hg))|refine st_condT rfl ?_|(refine st_condS rfl ?_ ?_ <;> intro hg <;> (try simp only[dcT,dcF,bnT,bnF] at hg))|refine st_nil ?_|refine st_tN ?_|refine st_seq ?_|refine st_block ?_|refine st_skip ?_|refine st_exit ?_|refine st_ret ?_|refine st_tE ?_|refine st_tR ?_|refine st_bR ?_|refine st_bH ?_)
   all_goals try (exfalso;omega)
   simp (disch:=omega) only[AEnd,Tryz.results87,aresK,fin,go_sem,implies_true,true_and,and_true,List.reverse_cons,List.reverse_nil]
   exact ⟨hat,hlp,.inl (hfail hn3)⟩
  by_cases h3:itoa z=x
  case neg =>
   rw [if_pos (.inr (.inr h3))] at hn3
   repeat' (first|refine st_seq_reg rfl (by first|(simp only[go_sem,strs_len,List.length_cons,hnc,hxg,h3];rfl)|rfl) (by first|(simp only[go_sem,strs_len,List.length_cons,hnc,hxg,h3];rfl)|rfl) ?_|refine st_op ?_|refine st_det rfl (by simp (disch:=omega) only[go_sem,wr_i64,strs_len,List.length_cons,hnc,hxg,h3];rfl) ?_|(refine st_pureGE (by first|(simp (disch:=omega) only[go_sem,strs_len,List.length_cons,hnc,hxg,h3];rfl)|rfl) rfl (k114) (by exact hgl) (by first|(simp only[go_sem,strs_len,List.length_cons,hnc,hxg,h3];rfl)|rfl) (by intro n;first|(simp (disch:=omega) only[go_sem];rfl)|rfl) ?_;intro n hn)|(refine st_pureGE (by first|(simp (disch:=omega) only[go_sem,strs_len,List.length_cons,hnc,hxg,h3];rfl)|rfl) rfl (k79) (by exact hgl) (by first|(simp only[go_sem,strs_len,List.length_cons,hnc,hxg,h3];rfl)|rfl) (by intro n;first|(simp (disch:=omega) only[go_sem];rfl)|rfl) ?_;intro n hn)|refine st_gT rfl rfl rfl ?_|refine st_gF rfl rfl rfl ?_|(refine st_gS rfl rfl ?_ ?_ <;> intro hg <;> (try simp only[dcT,dcF,bnT,bnF] at hg))|refine st_condT rfl ?_|(refine st_condS rfl ?_ ?_ <;> intro hg <;> (try simp only[dcT,dcF,bnT,bnF] at hg))|refine st_nil ?_|refine st_tN ?_|refine st_seq ?_|refine st_block ?_|refine st_skip ?_|refine st_exit ?_|refine st_ret ?_|refine st_tE ?_|refine st_tR ?_|refine st_bR ?_|refine st_bH ?_)
   all_goals try (exfalso;omega)
   simp (disch:=omega) only[AEnd,Tryz.results87,aresK,fin,go_sem,implies_true,true_and,and_true,List.reverse_cons,List.reverse_nil]
   exact ⟨hat,hlp,.inl (hfail hn3)⟩
  rw [if_neg (by rintro (q|q|q);exact h1 q;exact h2 q;exact q h3)] at hn3
  repeat' (first|refine st_seq_reg rfl (by first|(simp only[go_sem,strs_len,List.length_cons,hnc,hxg,h3];rfl)|rfl) (by first|(simp only[go_sem,strs_len,List.length_cons,hnc,hxg,h3];rfl)|rfl) ?_|refine st_reg rfl (by first|(simp only[go_sem,strs_len,List.length_cons,hnc,hxg,h3];rfl)|rfl) (by first|(simp only[go_sem,strs_len,List.length_cons,hnc,hxg,h3];rfl)|rfl) ?_|refine st_op ?_|refine st_det rfl (by simp (disch:=omega) only[go_sem,wr_i64,strs_len,List.length_cons,hnc,hxg,h3];rfl) ?_|(refine st_pureGE (by first|(simp (disch:=omega) only[go_sem,strs_len,List.length_cons,hnc,hxg,h3];rfl)|rfl) rfl (k114) (by exact hgl) (by first|(simp only[go_sem,strs_len,List.length_cons,hnc,hxg,h3];rfl)|rfl) (by intro n;first|(simp (disch:=omega) only[go_sem];rfl)|rfl) ?_;intro n hn)|(refine st_pureGE (by first|(simp (disch:=omega) only[go_sem,strs_len,List.length_cons,hnc,hxg,h3];rfl)|rfl) rfl (k79) (by exact hgl) (by first|(simp only[go_sem,strs_len,List.length_cons,hnc,hxg,h3];rfl)|rfl) (by intro n;first|(simp (disch:=omega) only[go_sem];rfl)|rfl) ?_;intro n hn)|(refine st_appSg (by intro h id x y;simp only[go_sem];rfl) rfl (by simp only[go_sem,strs_len,List.length_cons,hnc,hxg,h3];rfl) (by first|(simp only[go_sem,strs_len,List.length_cons,hnc,hxg,h3];rfl)|rfl) (by decide) hS (fun _ _ _=>rfl) (by omega) (by simp only[List.length_map,List.length_cons,List.length_nil,big,strs_len,List.length_cons,hnc,hxg,h3];omega) (by omega) (by omega) ?_;intro v' g' hA hAg)|refine st_gT rfl rfl rfl ?_|refine st_gF rfl rfl rfl ?_|(refine st_gS rfl rfl ?_ ?_ <;> intro hg <;> (try simp only[dcT,dcF,bnT,bnF] at hg))|refine st_condT rfl ?_|refine st_condF rfl ?_|(refine st_condS rfl ?_ ?_ <;> intro hg <;> (try simp only[dcT,dcF,bnT,bnF] at hg))|refine st_nil ?_|refine st_tN ?_|refine st_seq ?_|refine st_block ?_|refine st_skip ?_|refine st_exit ?_|refine st_ret ?_|refine st_tE ?_|refine st_tR ?_|refine st_bN ?_|refine st_bR ?_|refine st_bH ?_)
  all_goals try (exfalso;omega)
  have hns2:numsP 3 (ws.take (i+1))=some (ns ++ [z]):=by
   rw [take_str hil,numsP_snoc,hns,← hx,hn3]
   simp only
   rw [show ((z.toNat:Nat):Int)=z by omega]
  refine ⟨⟨i+1,v',ns ++ [z],_⟩,(by exact ⟨by show i+1≤ws.length;omega,hns2,by simp [hnl],by rw [List.map_append];exact hA.sl.to (fun _ _ _ _ _=>rfl) (by (try simp only[go_sem]);omega),fun b' hb'=>(hA.old b' hb').trans (hat b' hb'),hA.lp.trans hlp,hAg.trans hgl,by (try simp only[go_sem]);omega⟩),(by show ws.length - (i+1) < ws.length - i;omega),(by repeat' (first|exact trivial|refine And.intro ?_ ?_|rfl|(simp (disch:=omega) only[go_sem,if_yes,if_no,if_no];rfl)|(simp (disch:=omega) only[go_sem,if_yes,if_no,if_no]))),(by repeat' (first|exact trivial|refine And.intro ?_ ?_|rfl|(simp (disch:=omega) only[go_sem,if_yes,if_no,if_no];rfl)|(simp (disch:=omega) only[go_sem,if_yes,if_no,if_no]))),rfl,HOld.refl _⟩
end Go.Proofs.YtaijkalhkgjakaaGreatDoor

namespace Go.Proofs.YtaijkalhkgjakaaGreatDoor
open Go.Av Go.Txt Go.Lib
attribute [local irreducible] thenA blockA awp awpOps awpD awp1
attribute [local go_sem_proc] Nat.reduceAdd Nat.reduceMul Nat.reduceEqDiff Nat.reduceBEq Nat.reduceLeDiff
attribute [local go_sem_proc ↓] reduceIte
attribute [local go_sem] if_yes if_no
set_option maxHeartbeats 8000000
set_option maxRecDepth 20000
def numV (k:Nat) (s:List UInt8):AV:=match numP k s with
 | some n=>.tup [.int .i64 (n:Nat),.bool true]
 | none=>.tup [.int .i64 0,.bool false]
theorem take_b {s:List UInt8} {i:Nat} (h:i < s.length):s.take (i+1)=s.take i ++ [s.getD i 0]:=by
 rw [List.take_add_one,List.getElem?_eq_getElem h,List.getD_eq_getElem?_getD,List.getElem?_eq_getElem h];rfl
theorem valN_take {s:List UInt8} {i:Nat} (h:i < s.length):valN 0 (s.take (i+1))=10 * valN 0 (s.take i)+((s.getD i 0).toNat - 48):=by
 rw [take_b h,valN_app,valN_cons,valN_nil]
theorem all_take {s:List UInt8} {i:Nat} (h:i < s.length):(s.take (i+1)).all dig=((s.take i).all dig && dig (s.getD i 0)):=by
 rw [take_b h,List.all_append];simp
theorem b_mem {s:List UInt8} {i:Nat} (h:i < s.length):s.getD i 0 ∈ s:=by
 rw [List.getD_eq_getElem?_getD,List.getElem?_eq_getElem h];exact List.getElem_mem h
theorem u8_lt (b:UInt8):b.toNat < 256:=UInt8.toNat_lt b
theorem idx9 {l:List UInt8} {k:IntKind} {i:Int} (h:0≤i∧i < l.length):aindex tt 9 (.str l) (.int k i)=some (.int .u8 (l.getD i.toNat 0).toNat):=by
 show (if 0≤i∧i < l.length then _ else _)=_
 rw [if_pos h]
theorem toNat0:Int.toNat 0=0:=rfl
theorem c115 (s:List UInt8):Pure Tryz.prog 115 [.str s] (fun v=>v=numV 3 s):=by
 intro h
 by_cases h1:s.length < 1
 ·have e:numV 3 s=.tup [.int .i64 0,.bool false]:=by unfold numV numP;rw [if_pos (.inl h1)]
  refine ACalls.forget (ACalls.of tab mixed Tryz.call115 Tryz.func115 rfl (fi:=⟨49,[],[],none,[]⟩) rfl rfl (Nat.le_of_ble_eq_true rfl) (by decide) ?_)
  unfold startA
  try simp only[go_sem]
  repeat' (first|refine st_seq_reg rfl (by first|(simp only[go_sem];rfl)|rfl) (by first|(simp only[go_sem];rfl)|rfl) ?_|refine st_op ?_|refine st_det rfl (by simp (disch:=omega) only[go_sem,wr_i64];rfl) ?_|refine st_gT rfl rfl rfl ?_|refine st_gF rfl rfl rfl ?_|(refine st_gS rfl rfl ?_ ?_ <;> intro hg <;> (try simp only[dcT,dcF,bnT,bnF] at hg))|refine st_condT rfl ?_|refine st_nil ?_|refine st_seq ?_|refine st_ret ?_|refine st_tR ?_)
  all_goals try (exfalso;omega)
  simp (disch:=omega) only[AEnd,Tryz.results115,aresK,fin,go_sem,implies_true,true_and,and_true,List.reverse_cons,List.reverse_nil]
  exact e.symm
 by_cases h2:3 < s.length
 ·have e:numV 3 s=.tup [.int .i64 0,.bool false]:=by unfold numV numP;rw [if_pos (.inr (.inl h2))]
  refine ACalls.forget (ACalls.of tab mixed Tryz.call115 Tryz.func115 rfl (fi:=⟨49,[],[],none,[]⟩) rfl rfl (Nat.le_of_ble_eq_true rfl) (by decide) ?_)
  unfold startA
  try simp only[go_sem]
  repeat' (first|refine st_seq_reg rfl (by first|(simp only[go_sem];rfl)|rfl) (by first|(simp only[go_sem];rfl)|rfl) ?_|refine st_op ?_|refine st_det rfl (by simp (disch:=omega) only[go_sem,wr_i64];rfl) ?_|refine st_gT rfl rfl rfl ?_|refine st_gF rfl rfl rfl ?_|(refine st_gS rfl rfl ?_ ?_ <;> intro hg <;> (try simp only[dcT,dcF,bnT,bnF] at hg))|refine st_condT rfl ?_|refine st_nil ?_|refine st_seq ?_|refine st_ret ?_|refine st_tR ?_)
  all_goals try (exfalso;omega)
  simp (disch:=omega) only[AEnd,Tryz.results115,aresK,fin,go_sem,implies_true,true_and,and_true,List.reverse_cons,List.reverse_nil]
  exact e.symm
 have hb0:=u8_lt (s.getD 0 0)
 by_cases h3:(s.getD 0 0).toNat=48∧1 < s.length
 ·have e:numV 3 s=.tup [.int .i64 0,.bool false]:=by
   have hh:s.head?=some 48:=by
    cases s with
    | nil=>simp at h1
    | cons b s=>exact congrArg some (UInt8.toNat_inj.1 h3.1)
   unfold numV numP
   rw [if_pos (.inr (.inr ⟨hh,h3.2⟩))]
  refine ACalls.forget (ACalls.of tab mixed Tryz.call115 Tryz.func115 rfl (fi:=⟨49,[],[],none,[]⟩) rfl rfl (Nat.le_of_ble_eq_true rfl) (by decide) ?_)
  unfold startA
  try simp only[go_sem]
  repeat' (first|refine st_seq_reg rfl (by first|(simp only[go_sem,idx9,toNat0,h3.1];rfl)|rfl) (by first|(simp only[go_sem,idx9,toNat0,h3.1];rfl)|rfl) ?_|refine st_op ?_|refine st_det rfl (by simp (disch:=omega) only[go_sem,wr_i64,idx9,toNat0,h3.1];rfl) ?_|refine st_gT rfl rfl rfl ?_|refine st_gF rfl rfl rfl ?_|(refine st_gS rfl rfl ?_ ?_ <;> intro hg <;> (try simp only[dcT,dcF,bnT,bnF] at hg))|refine st_condT rfl ?_|(refine st_condS rfl ?_ ?_ <;> intro hg <;> (try simp only[dcT,dcF,bnT,bnF] at hg))|refine st_nil ?_|refine st_tN ?_|refine st_seq ?_|refine st_block ?_|refine st_skip ?_|refine st_ret ?_|refine st_tR ?_)
  all_goals try (exfalso;omega)
  simp (disch:=omega) only[AEnd,Tryz.results115,aresK,fin,go_sem,implies_true,true_and,and_true,List.reverse_cons,List.reverse_nil]
  exact e.symm
 have hP:numP 3 s=if s.all dig then some (valN 0 s) else none:=by
  unfold numP
  rw [if_neg]
  rintro (q|q|⟨q1,q2⟩)
  ·exact h1 q
  ·exact h2 q
  ·refine h3 ⟨?_,q2⟩
   cases s with
   | nil=>simp at h1
   | cons b s=>rw [List.head?_cons] at q1;injection q1 with q1;subst q1;rfl
 refine ACalls.forget (ACalls.of tab mixed Tryz.call115 Tryz.func115 rfl (fi:=⟨49,[],[],none,[]⟩) rfl rfl (Nat.le_of_ble_eq_true rfl) (by decide) ?_)
 unfold startA
 try simp only[go_sem]
 by_cases h4:(s.getD 0 0).toNat=48
 all_goals
  repeat' (first|refine st_seq_reg rfl (by first|(simp only[go_sem,idx9,toNat0,h4];rfl)|rfl) (by first|(simp only[go_sem,idx9,toNat0,h4];rfl)|rfl) ?_|refine st_op ?_|refine st_det rfl (by simp (disch:=omega) only[go_sem,wr_i64,idx9,toNat0,h4];rfl) ?_|refine st_gT rfl rfl rfl ?_|refine st_gF rfl rfl rfl ?_|(refine st_gS rfl rfl ?_ ?_ <;> intro hg <;> (try simp only[dcT,dcF,bnT,bnF] at hg))|refine st_condT rfl ?_|refine st_condF rfl ?_|(refine st_condS rfl ?_ ?_ <;> intro hg <;> (try simp only[dcT,dcF,bnT,bnF] at hg))|refine st_nil ?_|refine st_tN ?_|refine st_seq ?_|refine st_block ?_|refine st_skip ?_|refine st_ret ?_|refine st_tR ?_)
  all_goals try (exfalso;omega)
  refine st_loopC (α:=Nat) tab mixed [] [] (by repeat (first|exact trivial|refine ⟨rfl,?_⟩)) [] [] (by repeat (first|exact trivial|refine ⟨rfl,?_⟩)) (fun i=>[(5,.int .i64 (i:Nat)),(4,.int .i64 ((valN 0 (s.take i):Nat):Int))]) [(0,_),(2,_),(3,_)] (fun _=>[]) [] (fun i=>i≤s.length∧(s.take i).all dig=true) (fun i=>s.length - i) (by decide) 0 ⟨Nat.zero_le _,rfl⟩ (by (try simp only[go_sem]);repeat' (first|exact trivial|refine And.intro ?_ ?_|rfl|(simp (disch:=omega) only[go_sem,if_yes,if_no,if_no];rfl)|(simp (disch:=omega) only[go_sem,if_yes,if_no,if_no]))) (by (try simp only[go_sem]);repeat' (first|exact trivial|refine And.intro ?_ ?_|rfl|(simp (disch:=omega) only[go_sem,if_yes,if_no,if_no];rfl)|(simp (disch:=omega) only[go_sem,if_yes,if_no,if_no]))) (by first|(simp only[go_sem];rfl)|rfl) (by intro n;simp only[go_sem];rfl) ?_
  rintro i c ⟨hi,hal⟩ hc
  simp only[go_sem]
  by_cases hil:i < s.length
  case neg =>
   obtain rfl:i=s.length:=by omega
   rw [List.take_length] at hal ⊢
   repeat' (first|refine st_seq_reg rfl (by first|(simp only[go_sem];rfl)|rfl) (by first|(simp only[go_sem];rfl)|rfl) ?_|refine st_op ?_|refine st_det rfl (by simp (disch:=omega) only[go_sem,wr_i64];rfl) ?_|(refine st_condS rfl ?_ ?_ <;> intro hg <;> (try simp only[dcT,dcF,bnT,bnF] at hg))|refine st_nil ?_|refine st_tN ?_|refine st_seq ?_|refine st_block ?_|refine st_skip ?_|refine st_exit ?_|refine st_ret ?_|refine st_tE ?_|refine st_bH ?_)
   all_goals try (exfalso;omega)
   simp (disch:=omega) only[AEnd,Tryz.results115,aresK,fin,go_sem,implies_true,true_and,and_true,List.reverse_cons,List.reverse_nil]
   unfold numV
   rw [hP,if_pos hal]
  have hvb:valN 0 (s.take i) < 1000:=by
   have h5:=val_lt (s.take i) 0 hal
   have h6:10 ^ (s.take i).length≤10 ^ 3:=Nat.pow_le_pow_right (by decide) (by rw [List.length_take];omega)
   omega
  have hnx:=valN_take hil
  have hax:=all_take hil
  rw [hal,Bool.true_and] at hax
  have hdb:=u8_lt (s.getD i 0)
  have hmem:=b_mem hil
  obtain ⟨d,hd⟩:∃ d,d=(s.getD i 0).toNat:=⟨_,rfl⟩
  obtain ⟨q,hq⟩:∃ q,q=valN 0 (s.take i):=⟨_,rfl⟩
  rw [← hd] at hdb hnx
  rw [← hq] at hvb hnx ⊢
  have hbad:¬ (48≤d∧d≤57)→numV 3 s=.tup [.int .i64 0,.bool false]:=by
   intro hn
   unfold numV
   rw [hP,if_neg]
   intro hall
   exact hn (by rw [hd];exact dig_iff.1 (List.all_eq_true.1 hall _ hmem))
  by_cases h5:d < 48
  ·repeat' (first|refine st_seq_reg rfl (by first|(simp only[go_sem,idx9,Int.toNat_natCast,← hd];rfl)|rfl) (by first|(simp only[go_sem,idx9,Int.toNat_natCast,← hd];rfl)|rfl) ?_|refine st_reg rfl (by first|(simp only[go_sem,idx9,Int.toNat_natCast,← hd];rfl)|rfl) (by first|(simp only[go_sem,idx9,Int.toNat_natCast,← hd];rfl)|rfl) ?_|refine st_op ?_|refine st_det rfl (by simp (disch:=omega) only[go_sem,wr_i64,idx9,Int.toNat_natCast,← hd];rfl) ?_|refine st_gT rfl rfl rfl ?_|refine st_gF rfl rfl rfl ?_|(refine st_gS rfl rfl ?_ ?_ <;> intro hg <;> (try simp only[dcT,dcF,bnT,bnF] at hg))|refine st_condT rfl ?_|(refine st_condS rfl ?_ ?_ <;> intro hg <;> (try simp only[dcT,dcF,bnT,bnF] at hg))|refine st_nil ?_|refine st_tN ?_|refine st_seq ?_|refine st_block ?_|refine st_skip ?_|refine st_exit ?_|refine st_ret ?_|refine st_tE ?_|refine st_tR ?_|refine st_bN ?_|refine st_bR ?_|refine st_bH ?_)
   all_goals try (exfalso;omega)
   simp (disch:=omega) only[AEnd,Tryz.results115,aresK,fin,go_sem,implies_true,true_and,and_true,List.reverse_cons,List.reverse_nil]
   exact (hbad (by omega)).symm
  by_cases h6:57 < d
  ·repeat' (first|refine st_seq_reg rfl (by first|(simp only[go_sem,idx9,Int.toNat_natCast,← hd];rfl)|rfl) (by first|(simp only[go_sem,idx9,Int.toNat_natCast,← hd];rfl)|rfl) ?_|refine st_reg rfl (by first|(simp only[go_sem,idx9,Int.toNat_natCast,← hd];rfl)|rfl) (by first|(simp only[go_sem,idx9,Int.toNat_natCast,← hd];rfl)|rfl) ?_|refine st_op ?_|refine st_det rfl (by simp (disch:=omega) only[go_sem,wr_i64,idx9,Int.toNat_natCast,← hd];rfl) ?_|refine st_gT rfl rfl rfl ?_|refine st_gF rfl rfl rfl ?_|(refine st_gS rfl rfl ?_ ?_ <;> intro hg <;> (try simp only[dcT,dcF,bnT,bnF] at hg))|refine st_condT rfl ?_|(refine st_condS rfl ?_ ?_ <;> intro hg <;> (try simp only[dcT,dcF,bnT,bnF] at hg))|refine st_nil ?_|refine st_tN ?_|refine st_seq ?_|refine st_block ?_|refine st_skip ?_|refine st_exit ?_|refine st_ret ?_|refine st_tE ?_|refine st_tR ?_|refine st_bN ?_|refine st_bR ?_|refine st_bH ?_)
   all_goals try (exfalso;omega)
   simp (disch:=omega) only[AEnd,Tryz.results115,aresK,fin,go_sem,implies_true,true_and,and_true,List.reverse_cons,List.reverse_nil]
   exact (hbad (by omega)).symm
  repeat' (first|refine st_seq_reg rfl (by first|(simp only[go_sem,idx9,Int.toNat_natCast,← hd,wr_u8];rfl)|rfl) (by first|(simp only[go_sem,idx9,Int.toNat_natCast,← hd,wr_u8];rfl)|rfl) ?_|refine st_reg rfl (by first|(simp only[go_sem,idx9,Int.toNat_natCast,← hd,wr_u8];rfl)|rfl) (by first|(simp only[go_sem,idx9,Int.toNat_natCast,← hd,wr_u8];rfl)|rfl) ?_|refine st_op ?_|refine st_det rfl (by simp (disch:=omega) only[go_sem,wr_i64,idx9,Int.toNat_natCast,← hd,wr_u8];rfl) ?_|refine st_gT rfl rfl rfl ?_|refine st_gF rfl rfl rfl ?_|(refine st_gS rfl rfl ?_ ?_ <;> intro hg <;> (try simp only[dcT,dcF,bnT,bnF] at hg))|refine st_condT rfl ?_|(refine st_condS rfl ?_ ?_ <;> intro hg <;> (try simp only[dcT,dcF,bnT,bnF] at hg))|refine st_nil ?_|refine st_tN ?_|refine st_seq ?_|refine st_block ?_|refine st_skip ?_|refine st_exit ?_|refine st_ret ?_|refine st_tE ?_|refine st_tR ?_|refine st_bN ?_|refine st_bR ?_|refine st_bH ?_)
  all_goals try (exfalso;omega)
  have hval:(10 * (q:Int)+((d:Int) - 48))=((valN 0 (s.take (i+1)):Nat):Int):=by rw [hnx];omega
  refine ⟨i+1,(by exact ⟨by omega,by rw [hax];exact dig_iff.2 (by rw [← hd];omega)⟩),(by omega),(by (try (rw [hval]));repeat' (first|exact trivial|refine And.intro ?_ ?_|rfl|(simp (disch:=omega) only[go_sem,if_yes,if_no,if_no];rfl)|(simp (disch:=omega) only[go_sem,if_yes,if_no,if_no]))),(by (try (rw [hval]));repeat' (first|exact trivial|refine And.intro ?_ ?_|rfl|(simp (disch:=omega) only[go_sem,if_yes,if_no,if_no];rfl)|(simp (disch:=omega) only[go_sem,if_yes,if_no,if_no]))),rfl,(by first|exact HOld.of _ (by omega)|exact HOld.put _ _ _ (by omega))⟩
end Go.Proofs.YtaijkalhkgjakaaGreatDoor
