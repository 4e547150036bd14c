/- Contracts of functions that the claim reaches: what each call gives, told in our own logic. Conditions: those of each theorem. -/
import Derived.Test.YtaijkalhkgjakaaGreatDoorW10
import Derived.Test.YtaijkalhkgjakaaGreatDoorG16
import Derived.Test.YtaijkalhkgjakaaGreatDoorW3
open Nat (reduceAdd reduceMul reduceEqDiff reduceLeDiff)
set_option linter.all false
set_option linter.unusedSimpArgs false
set_option linter.unusedVariables false
namespace Go.Proofs.YtaijkalhkgjakaaGreatDoor
open Go.Av Go.Txt Go.Lib
theorem itoa_nat (n:Nat):itoa (n:Int)=decDigits n:=by
  unfold itoa
  rw [if_neg (by omega)]
  simp
theorem itoa_nn {x:Int} (h:0≤x):itoa x=decDigits x.toNat:=by
  have:=itoa_nat x.toNat
  rwa [Int.toNat_of_nonneg h] at this
theorem dec_no {c:UInt8} (hc:dig c=false) (u:Nat):c ∉ decDigits u:=fun h=>by
  have:=List.all_eq_true.1 (dec_dig u) c h
  rw [hc] at this;cases this
theorem numsT_no {c:UInt8} (hc:dig c=false) (h32:c ≠ 32) {l:List Int} (hl:∀ x ∈ l,0≤x):c ∉ numsT l:=by
  unfold numsT
  rw [List.mem_flatMap]
  rintro ⟨x,hx,h⟩
  rcases List.mem_cons.1 h with h|h
  · exact h32 h
  · rw [itoa_nn (hl x hx)] at h
    exact dec_no hc _ h
theorem join_nums (w:List UInt8):∀ l:List Int,joinL 32 (w :: l.map itoa)=w ++ numsT l
  | []=>by simp [joinL,numsT]
  | x :: l=>by
    rw [List.map_cons,joinL_cons 32 w (by simp),join_nums (itoa x) l]
    simp [numsT]
theorem numsP_of {k:Nat}:∀ {l:List Int},(∀ x ∈ l,0≤x∧(decDigits x.toNat).length≤k)→numsP k (l.map itoa)=some l
  | [],_=>rfl
  | x :: l,h=>by
    have h1:=h x (by simp)
    rw [List.map_cons,numsP,itoa_nn h1.1,numP_dec h1.2,numsP_of (fun y hy=>h y (by simp [hy]))]
    simp only[Int.toNat_of_nonneg h1.1]
theorem rowP_row {k:Nat} {w:List UInt8} {l:List Int} (hw:(32:UInt8) ∉ w) (hl:∀ x ∈ l,0≤x∧(decDigits x.toNat).length≤k):rowP k (w ++ numsT l)=some (w,l):=by
  unfold rowP
  rw [← join_nums,split_join (by simp)]
  · simp only[numsP_of hl,Option.map_some]
  · intro r hr
    rcases List.mem_cons.1 hr with rfl|hr
    · exact hw
    · obtain ⟨x,hx,rfl⟩:=List.mem_map.1 hr
      rw [itoa_nn (hl x hx).1]
      exact dec_no (by decide) _
theorem numsP_inv {k:Nat}:∀ {ws:List (List UInt8)} {l:List Int},numsP k ws=some l→ws=l.map itoa
  | [],l,h=>by simp [numsP] at h;subst h;rfl
  | x :: ws,l,h=>by
    simp only[numsP] at h
    split at h
    · rename_i n q h1 h2
      cases h
      rw [List.map_cons,itoa_nat,← (numP_some h1).1,← numsP_inv h2]
    · cases h
theorem row_of {k:Nat} {row w:List UInt8} {l:List Int} (h:rowP k row=some (w,l)):row=w ++ numsT l:=by
  unfold rowP at h
  split at h
  · cases h
  · rename_i w' ws hw
    cases hn:numsP k ws with
    | none=>rw [hn] at h;cases h
    | some r =>
      rw [hn] at h
      injection h with h
      injection h with h1 h2
      subst h1;subst h2
      rw [← join_nums,← numsP_inv hn,← hw,join_split]
theorem join_rows:∀ rs:List (List UInt8),joinL 10 (rs ++ [[]])=rs.flatMap (· ++ [10])
  | []=>rfl
  | r :: rs=>by
    rw [List.cons_append,joinL_cons 10 r (by simp),join_rows rs]
    simp
theorem split_rows {rs:List (List UInt8)} (h:∀ r ∈ rs,(10:UInt8) ∉ r):splitL 10 (rs.flatMap (· ++ [10]))=rs ++ [[]]:=by
  rw [← join_rows]
  refine split_join (by simp) fun r hr=>?_
  rcases List.mem_append.1 hr with hr|hr
  · exact h r hr
  · simp at hr;subst hr;simp
theorem dec3 {u:Nat} (h:u < 1000):(decDigits u).length≤3:=by
  by_cases h1:u < 10
  · rw [dS h1];simp
  · rw [dB h1]
    by_cases h2:u / 10 < 10
    · rw [dS h2];simp
    · rw [dB h2,dS (by omega)];simp
def shR (S:Sp):List UInt8:=wShop ++ numsT [(S.js.length:Int)]
def wkR (x:Wk):List UInt8:=wWorker ++ numsT [bi x.a,bi x.b,bi x.c]
def jbR (x:Jb):List UInt8:=wJob ++ numsT [x.f,x.s,x.d]
def rowsB (S:Sp):List (List UInt8):=shR S :: (S.ws.map wkR ++ S.js.map jbR ++ [wEnd])
theorem brd_flat (S:Sp):brdT S=(rowsB S).flatMap (· ++ [10]):=by
  unfold brdT rowsB shR
  simp only[List.flatMap_cons,List.flatMap_append,List.flatMap_map,List.flatMap_nil,List.append_nil]
  unfold rowT
  have e1:S.ws.flatMap wkT=S.ws.flatMap fun a=>wkR a ++ [10]:=rfl
  have e2:S.js.flatMap jbT=S.js.flatMap fun a=>jbR a ++ [10]:=rfl
  rw [e1,e2]
  simp [numsT]
theorem bi01 (b:Bool):0≤bi b∧bi b≤1:=by unfold bi;split <;> omega
theorem wne1:¬ wWorker=wShop:=by decide
theorem wne2:¬ wJob=wShop:=by decide
theorem wne3:¬ wJob=wWorker:=by decide
theorem wne4:¬ wEnd=wShop:=by decide
theorem wne5:¬ wEnd=wWorker:=by decide
theorem wne6:¬ wEnd=wJob:=by decide
theorem sm3 {l:List Int} (h:∀ x ∈ l,0≤x∧x < 1000):∀ x ∈ l,0≤x∧(decDigits x.toNat).length≤3:=fun x hx=>⟨(h x hx).1,dec3 (by have:=h x hx;omega)⟩
theorem step_sh {S:Sp} (h:S.js.length < 1000):stepB 0 st0 (shR S)=some ⟨⟨[],[]⟩,S.js.length,false⟩:=by
  have hp:rowP 3 (shR S)=some (wShop,[(S.js.length:Int)]):=rowP_row (by decide) (sm3 (by intro x hx;simp at hx;omega))
  unfold stepB
  rw [hp]
  dsimp only
  rw [if_neg (by simp [st0]),if_neg (by simp),if_pos rfl]
  exact if_pos rfl
theorem step_wk {i:Nat} {st:BSt} (x:Wk) (he:st.e=false) (hi:i ≠ 0) (hj:st.S.js=[]):stepB i st (wkR x)=some ⟨⟨st.S.ws ++ [x],st.S.js⟩,st.m,st.e⟩:=by
  have hp:rowP 3 (wkR x)=some (wWorker,[bi x.a,bi x.b,bi x.c]):=rowP_row (by decide) (sm3 (by
    intro y hy
    have h1:=bi01 x.a
    have h2:=bi01 x.b
    have h3:=bi01 x.c
    simp at hy
    rcases hy with rfl|rfl|rfl <;> omega))
  unfold stepB
  rw [hp]
  obtain ⟨a,b,c⟩:=x
  dsimp only
  rw [if_neg (by simp [he]),if_neg (by simp [wne1,hi]),if_neg wne1,if_pos rfl,if_pos ⟨rfl,by cases a <;> cases b <;> cases c <;> decide,by simp [hj]⟩]
  cases a <;> cases b <;> cases c <;> rfl
theorem step_jb {i:Nat} {st:BSt} {x:Jb} (hx:x.Ok) (he:st.e=false) (hi:i ≠ 0):stepB i st (jbR x)=some ⟨⟨st.S.ws,st.S.js ++ [x]⟩,st.m,st.e⟩:=by
  obtain ⟨h1,h2,h3,h4,h5,h6⟩:=hx
  have hp:rowP 3 (jbR x)=some (wJob,[x.f,x.s,x.d]):=rowP_row (by decide) (sm3 (by
    intro y hy
    simp at hy
    rcases hy with rfl|rfl|rfl <;> omega))
  unfold stepB
  rw [hp]
  dsimp only
  rw [if_neg (by simp [he]),if_neg (by simp [wne2,hi]),if_neg wne2,if_neg wne3,if_pos rfl]
  exact if_pos rfl
theorem step_en {i:Nat} {st:BSt} (he:st.e=false) (hi:i ≠ 0):stepB i st wEnd=some ⟨st.S,st.m,true⟩:=by
  have hp:rowP 3 wEnd=some (wEnd,[]):=by
    unfold rowP
    rw [splitL_none (by decide)];rfl
  unfold stepB
  rw [hp]
  dsimp only
  rw [if_neg (by simp [he]),if_neg (by simp [wne4,hi]),if_neg wne4,if_neg wne5,if_neg wne6,if_pos rfl]
  exact if_pos rfl
theorem run_wk:∀ (l:List Wk) (i:Nat) (st:BSt) (rest:List (List UInt8)),st.e=false→i ≠ 0→st.S.js=[]→runR i st (l.map wkR ++ rest)=runR (i+l.length) ⟨⟨st.S.ws ++ l,st.S.js⟩,st.m,st.e⟩ rest
  | [],i,st,rest,_,_,_=>by simp
  | x :: l,i,st,rest,he,hi,hj=>by
    rw [List.map_cons,List.cons_append,runR,step_wk x he hi hj]
    simp only
    rw [run_wk l (i+1) _ rest (by exact he) (by omega) (by exact hj)]
    simp only[List.append_assoc,List.singleton_append,List.length_cons]
    congr 1;omega
theorem run_jb:∀ (l:List Jb) (i:Nat) (st:BSt) (rest:List (List UInt8)),(∀ x ∈ l,x.Ok)→st.e=false→i ≠ 0→runR i st (l.map jbR ++ rest)=runR (i+l.length) ⟨⟨st.S.ws,st.S.js ++ l⟩,st.m,st.e⟩ rest
  | [],i,st,rest,_,_,_=>by simp
  | x :: l,i,st,rest,hx,he,hi=>by
    rw [List.map_cons,List.cons_append,runR,step_jb (hx x (by simp)) he hi]
    simp only
    rw [run_jb l (i+1) _ rest (fun y hy=>hx y (by simp [hy])) (by exact he) (by omega)]
    simp only[List.append_assoc,List.singleton_append,List.length_cons]
    congr 1;omega
theorem run_rows {S:Sp} (h7:S.js.length < 1000) (hx:∀ x ∈ S.js,x.Ok):runR 0 st0 (rowsB S)=.inr ⟨S,S.js.length,true⟩:=by
  unfold rowsB
  rw [runR,step_sh h7]
  simp only
  rw [List.append_assoc,run_wk _ _ _ _ rfl (by omega) rfl,run_jb _ _ _ _ hx rfl (by omega),runR,step_en rfl (by omega)]
  simp only[runR,List.nil_append]
theorem rows_no (S:Sp) (hx:∀ x ∈ S.js,x.Ok):∀ r ∈ rowsB S,(10:UInt8) ∉ r:=by
  intro r hr
  have nn:∀ {w:List UInt8} {l:List Int},(10:UInt8) ∉ w→(∀ x ∈ l,0≤x)→(10:UInt8) ∉ w ++ numsT l:=fun h1 h2 h=>by
    rcases List.mem_append.1 h with h|h
    · exact h1 h
    · exact numsT_no (by decide) (by decide) h2 h
  unfold rowsB at hr
  simp only[List.mem_cons,List.mem_append,List.mem_map,List.not_mem_nil,or_false] at hr
  rcases hr with rfl|(⟨x,_,rfl⟩|⟨x,hm,rfl⟩)|rfl
  · exact nn (by decide) (by intro y hy;simp at hy;omega)
  · exact nn (by decide) (by
      intro y hy
      have h1:=bi01 x.a
      have h2:=bi01 x.b
      have h3:=bi01 x.c
      simp at hy
      rcases hy with rfl|rfl|rfl <;> omega)
  · obtain ⟨h1,h2,h3,h4,h5,h6⟩:=hx x hm
    exact nn (by decide) (by intro y hy;simp at hy;rcases hy with rfl|rfl|rfl <;> omega)
  · decide
theorem brd_len {S:Sp} (hE:shopE S=0):(brdT S).length≤1000:=by
  have hS:=shop_ok hE
  have h4:S.ws.length≤4:=hS.m4
  have h7:S.js.length≤7:=hS.n7
  have h1:(S.ws.flatMap wkT).length≤80 * 4:=Nat.le_trans (flat_len (fun x _=>wkT_len x)) (Nat.mul_le_mul_left _ h4)
  have h2:(S.js.flatMap jbT).length≤80 * 7:=Nat.le_trans (flat_len (fun x hx=>jbT_len (hS.job x hx))) (Nat.mul_le_mul_left _ h7)
  have h3:=rowT_len (w:=wShop) (l:=[(S.js.length:Int)]) (by intro x hx;simp at hx;omega)
  have h5:=rowT_len (w:=wEnd) (l:=[]) (by intro x hx;cases hx)
  have e1:wShop.length=4:=rfl
  have e2:wEnd.length=3:=rfl
  unfold brdT
  simp only[List.length_append,List.length_cons,List.length_nil] at h3 h5 ⊢
  omega
theorem rd_wr {S:Sp} (hE:shopE S=0):rdV (brdT S)=.tup [S.av,.int .i64 0,.int .i64 0]:=by
  have hS:=shop_ok hE
  have h7:S.js.length≤7:=hS.n7
  have hl:=brd_len hE
  have hsp:splitL 10 (brdT S)=rowsB S ++ [[]]:=by rw [brd_flat,split_rows (rows_no S hS.job)]
  have hb:(rowsB S ++ [[]]).length - 1=(rowsB S).length:=by simp
  unfold rdV
  rw [if_neg (by omega),hsp,hb,List.take_left,run_rows (by omega) hS.job]
  simp only
  rw [if_neg (by simp),if_neg (by simp [List.getD_eq_getElem?_getD]),if_neg (by simp),if_neg (by simp [hE])]
theorem run_e:∀ {rs:List (List UInt8)} {i:Nat} {st st':BSt},runR i st rs=.inr st'→st.e=true→rs=[]∧st'=st
  | [],i,st,st',h,_=>by simp only[runR] at h;injection h with h;exact ⟨rfl,h.symm⟩
  | r :: rs,i,st,st',h,he=>by
    have:stepB i st r=none:=by
      unfold stepB
      split
      · rfl
      · rw [if_pos he]
    rw [runR,this] at h
    cases h
theorem len3 {l:List Int} (h:l.length=3):l=[nth l 0,nth l 1,nth l 2]:=by
  match l,h with
  | [a,b,c],_=>rfl
theorem bi_dec {x:Int} (h:0≤x∧x≤1):bi (decide (x=1))=x:=by
  unfold bi
  by_cases h1:x=1
  · simp [h1]
  · simp [h1];omega
theorem run_inv:∀ {rs:List (List UInt8)} {i:Nat} {st st':BSt},runR i st rs=.inr st'→st.e=false→st'.e=true→i ≠ 0 →
    ∃ ws2 js2,rs=ws2.map wkR ++ js2.map jbR ++ [wEnd]∧st'.S.ws=st.S.ws ++ ws2∧st'.S.js=st.S.js ++ js2∧st'.m=st.m∧(st.S.js ≠ []→ws2=[])
  | [],i,st,st',h,he,he',_=>by
    simp only[runR] at h;injection h with h;rw [h] at he;rw [he] at he';cases he'
  | r :: rs,i,st,st',h,he,he',hi=>by
    rw [runR] at h
    cases hp:rowP 3 r with
    | none =>
      have:stepB i st r=none:=by unfold stepB;rw [hp]
      rw [this] at h;cases h
    | some wl =>
      obtain ⟨w,l⟩:=wl
      have hr:=row_of hp
      have hst:stepB i st r=(if ¬ (w=wShop ↔ i=0) then none else if w=wShop then (if l.length=1 then some ⟨st.S,nth l 0,st.e⟩ else none) else if w=wWorker then (if l.length=3∧allIn 0 1 l=true∧st.S.js.length=0 then some ⟨⟨st.S.ws ++ [⟨decide (nth l 0=1),decide (nth l 1=1),decide (nth l 2=1)⟩],st.S.js⟩,st.m,st.e⟩ else none) else if w=wJob then (if l.length=3 then some ⟨⟨st.S.ws,st.S.js ++ [⟨nth l 0,nth l 1,nth l 2⟩]⟩,st.m,st.e⟩ else none) else if w=wEnd then (if l.length=0 then some ⟨st.S,st.m,true⟩ else none) else none):=by
        unfold stepB;rw [hp];simp only;rw [if_neg (by simp [he])]
      by_cases h0:w=wShop
      · rw [if_pos (by simp [h0,hi])] at hst
        rw [hst] at h;cases h
      rw [if_neg (by simp [h0,hi]),if_neg h0] at hst
      by_cases h1:w=wWorker
      · rw [if_pos h1] at hst
        by_cases hc:l.length=3∧allIn 0 1 l=true∧st.S.js.length=0
        · rw [if_pos hc] at hst
          rw [hst] at h
          simp only at h
          obtain ⟨ws2,js2,q1,q2,q3,q4,q5⟩:=run_inv h (by exact he) he' (Nat.succ_ne_zero i)
          have hin:∀ x ∈ l,0≤x∧x≤1:=fun x hx=>by
            have:=hc.2.1
            unfold allIn at this
            have:=List.all_eq_true.1 this x hx
            simpa using this
          have hl:=len3 hc.1
          have b0:=bi_dec (hin (nth l 0) (by rw [hl];simp [nth]))
          have b1:=bi_dec (hin (nth l 1) (by rw [hl];simp [nth]))
          have b2:=bi_dec (hin (nth l 2) (by rw [hl];simp [nth]))
          refine ⟨⟨decide (nth l 0=1),decide (nth l 1=1),decide (nth l 2=1)⟩ :: ws2,js2,?_,?_,q3,q4,?_⟩
          · rw [q1,hr,h1,List.map_cons,wkR]
            dsimp only
            rw [b0,b1,b2,← hl]
            simp
          · rw [q2];simp
          · intro hne
            exact absurd (List.length_eq_zero_iff.1 hc.2.2) hne
        · rw [if_neg hc] at hst
          rw [hst] at h;cases h
      rw [if_neg h1] at hst
      by_cases h2:w=wJob
      · rw [if_pos h2] at hst
        by_cases hc:l.length=3
        · rw [if_pos hc] at hst
          rw [hst] at h
          simp only at h
          obtain ⟨ws2,js2,q1,q2,q3,q4,q5⟩:=run_inv h (by exact he) he' (Nat.succ_ne_zero i)
          have hw:ws2=[]:=q5 (by simp)
          subst hw
          have hl:=len3 hc
          refine ⟨[],⟨nth l 0,nth l 1,nth l 2⟩ :: js2,?_,by rw [q2],?_,q4,fun _=>rfl⟩
          · rw [q1,hr,h2,List.map_cons,jbR]
            dsimp only
            rw [← hl]
            simp
          · rw [q3];simp
        · rw [if_neg hc] at hst
          rw [hst] at h;cases h
      rw [if_neg h2] at hst
      by_cases h3:w=wEnd
      · rw [if_pos h3] at hst
        by_cases hc:l.length=0
        · rw [if_pos hc] at hst
          rw [hst] at h
          simp only at h
          obtain ⟨e1,e2⟩:=run_e h rfl
          have hl:l=[]:=List.length_eq_zero_iff.1 hc
          refine ⟨[],[],?_,?_,?_,?_,fun _=>rfl⟩
          · rw [e1,hr,h3,hl];simp [numsT]
          · rw [e2];simp
          · rw [e2];simp
          · rw [e2]
        · rw [if_neg hc] at hst
          rw [hst] at h;cases h
      rw [if_neg h3] at hst
      rw [hst] at h;cases h
theorem rd_inv (text:List UInt8):(∃ k e,rdV text=badV k e∧e ≠ 0) ∨ ∃ T:Sp,rdV text=.tup [T.av,.int .i64 0,.int .i64 0]∧shopE T=0∧brdT T=text:=by
  obtain ⟨rows,hrows⟩:∃ rows,rows=splitL 10 text:=⟨_,rfl⟩
  obtain ⟨nb,hnb⟩:∃ nb,nb=rows.length - 1:=⟨_,rfl⟩
  have hr1:1≤rows.length:=by rw [hrows];exact List.length_pos_iff.2 (splitL_ne _ _)
  unfold rdV
  by_cases h1:1000 < text.length
  · rw [if_pos h1];exact .inl ⟨_,_,rfl,by decide⟩
  rw [if_neg h1,← hrows,← hnb]
  cases hrun:runR 0 st0 (rows.take nb) with
  | inl k=>exact .inl ⟨_,_,rfl,by decide⟩
  | inr st =>
    simp only
    by_cases he:st.e=false
    · rw [if_pos he];exact .inl ⟨_,_,rfl,by decide⟩
    rw [if_neg he]
    by_cases hla:rows.getD nb [] ≠ []
    · rw [if_pos hla];exact .inl ⟨_,_,rfl,by decide⟩
    rw [if_neg hla]
    by_cases hm:st.m ≠ st.S.js.length
    · rw [if_pos hm];exact .inl ⟨_,_,rfl,by decide⟩
    rw [if_neg hm]
    by_cases hE:shopE st.S ≠ 0
    · rw [if_pos hE];exact .inl ⟨_,_,rfl,hE⟩
    rw [if_neg hE]
    refine .inr ⟨st.S,rfl,by simpa using hE,?_⟩
    have hla:rows.getD nb []=[]:=by simpa using hla
    have hm:st.m=st.S.js.length:=by simpa using hm
    have he:st.e=true:=by simpa using he
    have hrl:rows=rows.take nb ++ [[]]:=by
      have e:=(List.take_append_drop nb rows).symm
      have e2:rows.drop nb=[[]]:=by
        rw [List.drop_eq_getElem_cons (by omega),List.drop_eq_nil_of_le (by omega)]
        rw [List.getD_eq_getElem?_getD,List.getElem?_eq_getElem (by omega)] at hla
        simpa using hla
      rw [e2] at e;exact e
    have htext:text=(rows.take nb).flatMap (· ++ [10]):=by
      rw [← join_rows,← hrl,hrows,join_split]
    rw [brd_flat,htext]
    congr 1
    cases hb:rows.take nb with
    | nil =>
      rw [hb] at hrun
      simp only[runR] at hrun
      injection hrun with hrun
      rw [← hrun] at he
      cases he
    | cons r rs =>
      rw [hb,runR] at hrun
      cases hp:rowP 3 r with
      | none =>
        have:stepB 0 st0 r=none:=by unfold stepB;rw [hp]
        rw [this] at hrun;cases hrun
      | some wl =>
        obtain ⟨w,l⟩:=wl
        have hr:=row_of hp
        by_cases h0:w=wShop
        · by_cases hl:l.length=1
          · have hst:stepB 0 st0 r=some ⟨st0.S,nth l 0,false⟩:=by
              unfold stepB;rw [hp];simp only
              rw [if_neg (by simp [st0]),if_neg (by simp [h0]),if_pos h0,if_pos hl];rfl
            rw [hst] at hrun
            simp only at hrun
            obtain ⟨ws2,js2,q1,q2,q3,q4,_⟩:=run_inv hrun rfl he (by decide)
            have q2:st.S.ws=ws2:=by rw [q2];rfl
            have q3:st.S.js=js2:=by rw [q3];rfl
            unfold rowsB
            rw [q1,q2,q3]
            congr 1
            rw [hr,h0,shR,← hm,q4]
            match l,hl with
            | [a],_=>rfl
          · have hst:stepB 0 st0 r=none:=by
              unfold stepB;rw [hp];simp only
              rw [if_neg (by simp [st0]),if_neg (by simp [h0]),if_pos h0,if_neg hl]
            rw [hst] at hrun;cases hrun
        · have hst:stepB 0 st0 r=none:=by
            unfold stepB;rw [hp];simp only
            rw [if_neg (by simp [st0]),if_pos (by simp [h0])]
          rw [hst] at hrun;cases hrun
end Go.Proofs.YtaijkalhkgjakaaGreatDoor

namespace Go.Proofs.YtaijkalhkgjakaaGreatDoor
open Go.Av
attribute [local irreducible] thenA blockA awp awpOps awpD awp1
set_option maxHeartbeats 8000000
set_option maxRecDepth 20000
def DB (l:List Int):Prop:=l.length=7∧∀ i,0≤l.getD i 0∧l.getD i 0≤3000
theorem DB.next {S:Sp} (hS:S.Ok) {x y:Dr} (h:Rt S x) (hd:DB x.day) (hy:y ∈ nextD S x):DB y.day:=by
  obtain ⟨job,i,hj,hi,hs⟩:=mem_nextD.1 hy
  obtain ⟨_,_,_,rfl⟩:=nextAt_some hs
  have b:=h.bd hS
  have h7:=hS.n7
  have hh:=b.h i
  have hf:=b.f (jOf S.js job).f.toNat
  refine ⟨by simp [withD,hd.1],fun k=>?_⟩
  have e:=ixF_set (l:=x.day) (i:=job) (by rw [hd.1];omega) (max (x.hands.getD i 0) (x.fls.getD (jOf S.js job).f.toNat 0))
  have e2:=congrFun e k
  show 0≤ixF (x.day.set job _) k∧ixF (x.day.set job _) k≤3000
  rw [e2]
  by_cases q:k=job
  · rw [q,upd_same];omega
  · rw [upd_ne _ _ q];exact hd.2 k
theorem tryD_DB {S:Sp} (hS:S.Ok):∀ (f:Nat) (x:Dr) (st:List Int × Int),Rt S x→DB x.day→DB st.1→DB (tryD S f x st).1:=by
  intro f
  induction f with
  | zero=>intro x st _ _ h;exact h
  | succ f ih =>
    intro x st hx hd hs
    simp only[tryD]
    split
    · exact hs
    · split
      · exact hd
      · have:∀ (l:List Dr) (st:List Int × Int),(∀ y ∈ l,y ∈ nextD S x)→DB st.1→DB (l.foldl (fun st y=>tryD S f y st) st).1:=by
          intro l
          induction l with
          | nil=>intro st _ h;exact h
          | cons y l ihl =>
            intro st hl h
            have hy:=hl y (by simp)
            exact ihl _ (fun z hz=>hl z (by simp [hz])) (ih y st (hx.next hS hy) (DB.next hS hx hd hy) h)
        exact this _ st (fun _ h=>h) hs
theorem DB.zero:DB (List.replicate 7 0):=⟨rfl,fun i=>by
  rw [List.getD_eq_getElem?_getD,List.getElem?_replicate]
  split <;> simp⟩
theorem earD_DB {S:Sp} (hS:S.Ok):DB (earD S).1:=tryD_DB hS _ _ _ (Rt.start S) DB.zero DB.zero
def bestV (S:Sp):AV:=if (bndV S).2 ≠ 0 then .tup [.nils,.int .i64 0,.int .i64 (bndV S).2] else .tup [.lst 2 ((bestD S).1.map Sf.row),.int .i64 (bestD S).2,.int .i64 0]
theorem best_eq (S:Sp):bestD S=(stfP S (earD S).1,(earD S).2):=rfl
theorem bnd_ok {S:Sp} (h:(bndV S).2=0):S.Ok∧lackD S=false:=by
  unfold bndV at h
  split at h
  · rename_i q;exact absurd h q
  · rename_i q
    split at h
    · exact absurd h (by decide)
    · rename_i q2
      exact ⟨shop_ok (Decidable.of_not_not q),by simpa using q2⟩
theorem c34 (S:Sp):PureG gB Tryz.prog 34 [S.av] (fun v=>v=bestV S):=by
  intro h hgl
  refine ACalls.forget (ACalls.of tab mixed Tryz.call34 Tryz.func34 rfl (fi:=⟨25,[7],[1],none,[]⟩) rfl rfl (Nat.le_of_ble_eq_true rfl) (by decide) ?_)
  unfold startA
  try simp only[go_sem]
  by_cases hb:(bndV S).2=0
  · have hS:=(bnd_ok hb).1
    have hD:=earD_DB hS
    repeat' (first|refine st_seq_reg rfl (by first|(simp only[go_sem,aC_take,hb];rfl)|rfl) (by first|(simp only[go_sem,aC_take,hb];rfl)|rfl) ?_|refine st_op ?_|refine st_det rfl (by simp (disch:=omega) only[go_sem,wr_i64,if_yes,if_no,↓reduceIte,reduceAdd,reduceMul,reduceEqDiff,Nat.reduceBEq,reduceLeDiff,aC_take,hb];rfl) ?_|refine st_loc rfl (by simp (disch:=omega) only[go_sem,wr_i64,if_yes,if_no,↓reduceIte,reduceAdd,reduceMul,reduceEqDiff,Nat.reduceBEq,reduceLeDiff,aC_take,hb];rfl) ?_|refine st_store (by simp (disch:=omega) only[go_sem,wr_i64,if_yes,if_no,↓reduceIte,reduceAdd,reduceMul,reduceEqDiff,Nat.reduceBEq,reduceLeDiff,aC_take,hb];rfl) ?_|(refine st_pureGE (by first|(simp (disch:=omega) only[go_sem,aC_take,hb];rfl)|rfl) rfl (c35 S) (by exact hgl) (by first|(simp only[go_sem,aC_take,hb];rfl)|rfl) (by intro n;first|(simp (disch:=omega) only[go_sem];rfl)|rfl) ?_;intro n hn)|(refine st_pureGE (by first|(simp (disch:=omega) only[go_sem,aC_take,hb];rfl)|rfl) rfl (c71 S hS) (by exact hgl) (by first|(simp only[go_sem,aC_take,hb];rfl)|rfl) (by intro n;first|(simp (disch:=omega) only[go_sem];rfl)|rfl) ?_;intro n hn)|(refine st_pureGE (by first|(simp (disch:=omega) only[go_sem,aC_take,hb];rfl)|rfl) rfl (c72 S hS (earD S).1 hD.1 hD.2) (by exact hgl) (by first|(simp only[go_sem,aC_take,hb];rfl)|rfl) (by intro n;first|(simp (disch:=omega) only[go_sem];rfl)|rfl) ?_;intro n hn)|refine st_condF rfl ?_|refine st_nil ?_|refine st_tN ?_|refine st_seq ?_|refine st_skip ?_|refine st_ret ?_)
    all_goals try (exfalso;omega)
    simp (disch:=omega) only[AEnd,Tryz.results34,aresK,fin,go_sem,↓reduceIte,reduceEqDiff,reduceAdd,reduceLeDiff,if_yes,if_no,implies_true,true_and,and_true,List.reverse_cons,List.reverse_nil]
    unfold bestV;rw [if_neg (fun q=>q hb),best_eq]
  · repeat' (first|refine st_seq_reg rfl (by first|(simp only[go_sem];rfl)|rfl) (by first|(simp only[go_sem];rfl)|rfl) ?_|refine st_op ?_|refine st_det rfl (by simp (disch:=omega) only[go_sem,wr_i64,if_yes,if_no,↓reduceIte,reduceAdd,reduceMul,reduceEqDiff,Nat.reduceBEq,reduceLeDiff];rfl) ?_|(refine st_pureGE (by first|(simp (disch:=omega) only[go_sem];rfl)|rfl) rfl (c35 S) (by exact hgl) (by first|(simp only[go_sem];rfl)|rfl) (by intro n;first|(simp (disch:=omega) only[go_sem];rfl)|rfl) ?_;intro n hn)|(refine st_condS rfl ?_ ?_ <;> intro hg <;> (try simp only[decide_eq_true_eq,decide_eq_false_iff_not,Bool.not_eq_true',Bool.not_eq_false'] at hg))|refine st_nil ?_|refine st_tN ?_|refine st_seq ?_|refine st_skip ?_|refine st_ret ?_|refine st_tR ?_)
    all_goals try (exfalso;omega)
    simp (disch:=omega) only[AEnd,Tryz.results34,aresK,fin,go_sem,↓reduceIte,reduceEqDiff,reduceAdd,reduceLeDiff,if_yes,if_no,implies_true,true_and,and_true,List.reverse_cons,List.reverse_nil]
    unfold bestV;rw [if_pos hb]
def wL (arm:Int→Int) (f:Fl) (p m:Int):Int:=wl arm (f.kilos * arm f.mid+m * arm p) f.loads
def wH (arm:Int→Int) (f:Fl) (p m:Int):Int:=wh arm (f.kilos * arm f.mid+m * arm p) f.loads
def oneA:Int→Int:=fun _=>1
def frontA (f:Fl):Int→Int:=fun a=>f.rear - a
def rearA (f:Fl):Int→Int:=fun a=>a - f.front
theorem c151 (f:Fl) (p m:Int) (hf:FlOk f) (hp:0≤p∧p≤3000) (hm:0≤m∧m≤100000):Pure Tryz.prog 151 [Tk.av f p m] (fun v=>v=.agg [.int .i64 (wL oneA f p m),.int .i64 (wH oneA f p m)]):=by
  intro h
  refine ACalls.forget (ACalls.of tab mixed Tryz.call151 Tryz.func151 rfl (fi:=⟨5,[2],[1],none,[]⟩) rfl rfl (Nat.le_of_ble_eq_true rfl) (by decide) ?_)
  unfold startA
  simp only[go_sem]
  repeat' (first|refine st_seq_reg rfl (by first|(simp only[go_sem];rfl)|rfl) (by first|(simp only[go_sem];rfl)|rfl) ?_|refine st_op ?_|refine st_det rfl (by simp (disch:=omega) only[go_sem,wr_i64,if_yes,if_no,↓reduceIte,reduceAdd,reduceMul,reduceEqDiff,Nat.reduceBEq,reduceLeDiff];rfl) ?_|refine st_loc rfl (by simp (disch:=omega) only[go_sem,wr_i64,if_yes,if_no,↓reduceIte,reduceAdd,reduceMul,reduceEqDiff,Nat.reduceBEq,reduceLeDiff];rfl) ?_|refine st_store (by simp (disch:=omega) only[go_sem,wr_i64,if_yes,if_no,↓reduceIte,reduceAdd,reduceMul,reduceEqDiff,Nat.reduceBEq,reduceLeDiff];rfl) ?_|(refine st_pureE (by first|(simp (disch:=omega) only[go_sem];rfl)|rfl) rfl (c145 f p m 172 [] oneA hf hp hm (fun a _ _=>c172 a) (by intros;unfold oneA;omega)) (by first|(simp only[go_sem];rfl)|rfl) (by intro n;first|(simp (disch:=omega) only[go_sem];rfl)|rfl) ?_;intro n hn)|refine st_nil ?_|refine st_ret ?_)
  simp (disch:=omega) only[AEnd,Tryz.results151,aresK,fin,go_sem,↓reduceIte,reduceEqDiff,reduceAdd,reduceLeDiff,if_yes,if_no,implies_true,true_and,and_true,List.reverse_cons,List.reverse_nil]
  rfl
theorem c119 (f:Fl) (p m:Int) (hf:FlOk f) (hp:0≤p∧p≤3000) (hm:0≤m∧m≤100000):Pure Tryz.prog 119 [Tk.av f p m] (fun v=>v=.agg [.int .i64 (wL (frontA f) f p m),.int .i64 (wH (frontA f) f p m)]):=by
  have h1:=hf.len;have h2:=hf.axles
  intro h
  refine ACalls.forget (ACalls.of tab mixed Tryz.call119 Tryz.func119 rfl (fi:=⟨6,[2],[1],none,[]⟩) rfl rfl (Nat.le_of_ble_eq_true rfl) (by decide) ?_)
  unfold startA
  simp only[go_sem]
  repeat' (first|refine st_seq_reg rfl (by first|(simp only[go_sem];rfl)|rfl) (by first|(simp only[go_sem];rfl)|rfl) ?_|refine st_op ?_|refine st_det rfl (by simp (disch:=omega) only[go_sem,wr_i64,if_yes,if_no,↓reduceIte,reduceAdd,reduceMul,reduceEqDiff,Nat.reduceBEq,reduceLeDiff];rfl) ?_|refine st_loc rfl (by simp (disch:=omega) only[go_sem,wr_i64,if_yes,if_no,↓reduceIte,reduceAdd,reduceMul,reduceEqDiff,Nat.reduceBEq,reduceLeDiff];rfl) ?_|refine st_store (by simp (disch:=omega) only[go_sem,wr_i64,if_yes,if_no,↓reduceIte,reduceAdd,reduceMul,reduceEqDiff,Nat.reduceBEq,reduceLeDiff];rfl) ?_|(refine st_pureE (by first|(simp (disch:=omega) only[go_sem];rfl)|rfl) rfl (c145 f p m 146 [.iptr (Tk.av f p m).cells 0] (frontA f) hf hp hm (fun a g1 g2=>c146 f p m a ⟨g1,g2⟩ (by omega)) (by intros;unfold frontA;omega)) (by first|(simp only[go_sem];rfl)|rfl) (by intro n;first|(simp (disch:=omega) only[go_sem];rfl)|rfl) ?_;intro n hn)|refine st_nil ?_|refine st_ret ?_)
  simp (disch:=omega) only[AEnd,Tryz.results119,aresK,fin,go_sem,↓reduceIte,reduceEqDiff,reduceAdd,reduceLeDiff,if_yes,if_no,implies_true,true_and,and_true,List.reverse_cons,List.reverse_nil]
  rfl
theorem c120 (f:Fl) (p m:Int) (hf:FlOk f) (hp:0≤p∧p≤3000) (hm:0≤m∧m≤100000):Pure Tryz.prog 120 [Tk.av f p m] (fun v=>v=.agg [.int .i64 (wL (rearA f) f p m),.int .i64 (wH (rearA f) f p m)]):=by
  have h1:=hf.len;have h2:=hf.axles
  intro h
  refine ACalls.forget (ACalls.of tab mixed Tryz.call120 Tryz.func120 rfl (fi:=⟨6,[2],[1],none,[]⟩) rfl rfl (Nat.le_of_ble_eq_true rfl) (by decide) ?_)
  unfold startA
  simp only[go_sem]
  repeat' (first|refine st_seq_reg rfl (by first|(simp only[go_sem];rfl)|rfl) (by first|(simp only[go_sem];rfl)|rfl) ?_|refine st_op ?_|refine st_det rfl (by simp (disch:=omega) only[go_sem,wr_i64,if_yes,if_no,↓reduceIte,reduceAdd,reduceMul,reduceEqDiff,Nat.reduceBEq,reduceLeDiff];rfl) ?_|refine st_loc rfl (by simp (disch:=omega) only[go_sem,wr_i64,if_yes,if_no,↓reduceIte,reduceAdd,reduceMul,reduceEqDiff,Nat.reduceBEq,reduceLeDiff];rfl) ?_|refine st_store (by simp (disch:=omega) only[go_sem,wr_i64,if_yes,if_no,↓reduceIte,reduceAdd,reduceMul,reduceEqDiff,Nat.reduceBEq,reduceLeDiff];rfl) ?_|(refine st_pureE (by first|(simp (disch:=omega) only[go_sem];rfl)|rfl) rfl (c145 f p m 147 [.iptr (Tk.av f p m).cells 0] (rearA f) hf hp hm (fun a g1 g2=>c147 f p m a ⟨g1,g2⟩ (by omega)) (by intros;unfold rearA;omega)) (by first|(simp only[go_sem];rfl)|rfl) (by intro n;first|(simp (disch:=omega) only[go_sem];rfl)|rfl) ?_;intro n hn)|refine st_nil ?_|refine st_ret ?_)
  simp (disch:=omega) only[AEnd,Tryz.results120,aresK,fin,go_sem,↓reduceIte,reduceEqDiff,reduceAdd,reduceLeDiff,if_yes,if_no,implies_true,true_and,and_true,List.reverse_cons,List.reverse_nil]
  rfl
def tl (s:Int) (l:List Ld):Int:=(l.map (·.tlo)).foldl max s
def th (s:Int) (l:List Ld):Int:=(l.map (·.thi)).foldl max s
@[go_sem] theorem tl_nil (s:Int):tl s []=s:=rfl
@[go_sem] theorem th_nil (s:Int):th s []=s:=rfl
theorem tl_step {s:Int} {l:List Ld} {i:Nat} (h:i < l.length):tl s (l.take (i+1))=max (tl s (l.take i)) (ld l i).tlo:=by
  unfold tl ld;rw [List.take_succ_eq_append_getElem h,List.map_append,List.foldl_append,List.getD_eq_getElem?_getD,List.getElem?_eq_getElem h];rfl
theorem th_step {s:Int} {l:List Ld} {i:Nat} (h:i < l.length):th s (l.take (i+1))=max (th s (l.take i)) (ld l i).thi:=by
  unfold th ld;rw [List.take_succ_eq_append_getElem h,List.map_append,List.foldl_append,List.getD_eq_getElem?_getD,List.getElem?_eq_getElem h];rfl
theorem c149 (f:Fl) (p m:Int) (hf:FlOk f):Pure Tryz.prog 149 [Tk.av f p m] (fun v=>v=.agg [.int .i64 (tl f.high f.loads),.int .i64 (th f.high f.loads)]):=by
  have h4:=hf.loads.1
  have e1:∀ i,i < f.loads.length→_:=fun i h=>tl_step (s:=f.high) h
  have e2:∀ i,i < f.loads.length→_:=fun i h=>th_step (s:=f.high) h
  intro h
  refine ACalls.forget (ACalls.of tab mixed Tryz.call149 Tryz.func149 rfl (fi:=⟨36,[2,3,5],[1],none,[]⟩) rfl rfl (Nat.le_of_ble_eq_true rfl) (by decide) ?_)
  unfold startA
  simp only[go_sem]
  repeat' (first|refine st_seq_reg rfl (by first|(simp only[go_sem];rfl)|rfl) (by first|(simp only[go_sem];rfl)|rfl) ?_|refine st_op ?_|refine st_det rfl (by simp (disch:=omega) only[go_sem,wr_i64,if_yes,if_no,↓reduceIte,reduceAdd,reduceMul,reduceEqDiff,Nat.reduceBEq,reduceLeDiff];rfl) ?_|refine st_loc rfl (by simp (disch:=omega) only[go_sem,wr_i64,if_yes,if_no,↓reduceIte,reduceAdd,reduceMul,reduceEqDiff,Nat.reduceBEq,reduceLeDiff];rfl) ?_|refine st_store (by simp (disch:=omega) only[go_sem,wr_i64,if_yes,if_no,↓reduceIte,reduceAdd,reduceMul,reduceEqDiff,Nat.reduceBEq,reduceLeDiff];rfl) ?_|refine st_nil ?_|refine st_seq ?_|refine st_block ?_)
  refine st_loopC (α:=Nat) tab mixed [3] [_] (by repeat (first|exact trivial|refine ⟨rfl,?_⟩)) [2] [_] (by repeat (first|exact trivial|refine ⟨rfl,?_⟩)) (fun i=>[(17,.int .i64 i)]) [(1,_),(2,_),(3,_),(15,_),(16,_)] (fun i=>[[.int .i64 (tl f.high (f.loads.take i)),.int .i64 (th f.high (f.loads.take i))]]) [_] (fun i=>i≤f.loads.length) (fun i=>f.loads.length - i) (by decide) 0 (by omega) (by (try simp only[go_sem]);repeat' (first|exact trivial|refine And.intro ?_ ?_|rfl|(simp (disch:=omega) only[go_sem,if_yes,if_no,↓reduceIte,reduceAdd,reduceMul,reduceEqDiff,Nat.reduceBEq,reduceLeDiff];rfl)|(simp (disch:=omega) only[go_sem,if_yes,if_no,↓reduceIte,reduceAdd,reduceMul,reduceEqDiff,Nat.reduceBEq,reduceLeDiff]))) (by (try simp only[go_sem]);repeat' (first|exact trivial|refine And.intro ?_ ?_|rfl|(simp (disch:=omega) only[go_sem,if_yes,if_no,↓reduceIte,reduceAdd,reduceMul,reduceEqDiff,Nat.reduceBEq,reduceLeDiff];rfl)|(simp (disch:=omega) only[go_sem,if_yes,if_no,↓reduceIte,reduceAdd,reduceMul,reduceEqDiff,Nat.reduceBEq,reduceLeDiff]))) (by first|(simp only[go_sem];rfl)|rfl) (by intro n;simp only[go_sem];rfl) ?_
  rintro i c hi' hc
  simp only[go_sem]
  repeat' (first|refine st_seq_reg rfl (by first|(simp only[go_sem];rfl)|rfl) (by first|(simp only[go_sem];rfl)|rfl) ?_|refine st_reg rfl (by first|(simp only[go_sem];rfl)|rfl) (by first|(simp only[go_sem];rfl)|rfl) ?_|refine st_op ?_|refine st_det rfl (by simp (disch:=omega) only[go_sem,wr_i64,if_yes,if_no,↓reduceIte,reduceAdd,reduceMul,reduceEqDiff,Nat.reduceBEq,reduceLeDiff];rfl) ?_|refine st_loc rfl (by simp (disch:=omega) only[go_sem,wr_i64,if_yes,if_no,↓reduceIte,reduceAdd,reduceMul,reduceEqDiff,Nat.reduceBEq,reduceLeDiff];rfl) ?_|refine st_store (by simp (disch:=omega) only[go_sem,wr_i64,if_yes,if_no,↓reduceIte,reduceAdd,reduceMul,reduceEqDiff,Nat.reduceBEq,reduceLeDiff];rfl) ?_|(refine st_condS rfl ?_ ?_ <;> intro hg <;> (try simp only[decide_eq_true_eq,decide_eq_false_iff_not,Bool.not_eq_true',Bool.not_eq_false'] at hg))|refine st_nil ?_|refine st_tN ?_|refine st_seq ?_|refine st_block ?_|refine st_skip ?_|refine st_exit ?_|refine st_ret ?_|refine st_tE ?_|refine st_bN ?_|refine st_bH ?_)
  · refine ⟨i+1,(by omega),by omega,(by (try (rw [e1 i (by omega),e2 i (by omega)]));repeat' (first|exact trivial|refine And.intro ?_ ?_|rfl|(simp (disch:=omega) only[go_sem,if_yes,if_no,↓reduceIte,reduceAdd,reduceMul,reduceEqDiff,Nat.reduceBEq,reduceLeDiff];rfl)|(simp (disch:=omega) only[go_sem,if_yes,if_no,↓reduceIte,reduceAdd,reduceMul,reduceEqDiff,Nat.reduceBEq,reduceLeDiff]))),(by (try (rw [e1 i (by omega),e2 i (by omega)]));repeat' (first|exact trivial|refine And.intro ?_ ?_|rfl|(simp (disch:=omega) only[go_sem,if_yes,if_no,↓reduceIte,reduceAdd,reduceMul,reduceEqDiff,Nat.reduceBEq,reduceLeDiff];rfl)|(simp (disch:=omega) only[go_sem,if_yes,if_no,↓reduceIte,reduceAdd,reduceMul,reduceEqDiff,Nat.reduceBEq,reduceLeDiff]))),rfl,(by first|exact HOld.of _ (by omega)|exact HOld.put _ _ _ (by omega))⟩
  · rw [List.take_of_length_le (by omega)]
    simp (disch:=omega) only[AEnd,Tryz.results149,aresK,fin,go_sem,↓reduceIte,reduceEqDiff,reduceAdd,reduceLeDiff,if_yes,if_no,implies_true,true_and,and_true,List.reverse_cons,List.reverse_nil]
end Go.Proofs.YtaijkalhkgjakaaGreatDoor
