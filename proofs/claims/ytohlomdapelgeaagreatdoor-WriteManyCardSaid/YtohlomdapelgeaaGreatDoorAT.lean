/- Texts TN. -/
import Derived.Test.YtohlomdapelgeaaGreatDoorAR
import Derived.Test.YtohlomdapelgeaaGreatDoorAM
namespace Go.Proofs.YtohlomdapelgeaaGreatDoor
open Go.RowKit
open _root_.List renaming all_eq_true->jA,append_assoc->iK,cons_append->bE,length_append->bD,length_cons->aX,length_nil->bL,mem_cons->dD
set_option maxRecDepth 100000
section
def oneE:Ex:= .mk 1 (2,1,[]) [] [] 0 []
def nameE:Ex:= .mk 2 (0,0,[]) [] [97] 0 []
def repT(s:List UInt8):Nat->List UInt8
 |0=>s
 |n+1=>repT s n++[44,32]++s
theorem join_snoc(s x:List UInt8):∀l:List (List UInt8),l≠[]->jR s (l++[x])=jR s l++s++x
 |[],h=>absurd rfl h
 |[y],_=>by simp[jR]
 |y::z::r,_=>by
  have ih:=join_snoc s x (z::r) aa;simp only[bE,jR] at ih⊢;rw[ih];simp
theorem rep_join(s:List UInt8):∀n,jR [44,32] (List.replicate (n+1) s)=repT s n
 |0=>rfl
 |n+1=>by
  rw[List.replicate_succ',join_snoc _ _ _ aa,rep_join s n];rfl
theorem repT_len(s:List UInt8):∀n,(repT s n).length=s.length+n * (s.length+2)
 |0=>by simp[repT]
 |n+1=>by
  simp only[repT,bD,repT_len s n,aX,bL,Nat.add_mul];omega
def insMW(n r:Nat):Wr:=⟨1,⟨[116],[]⟩,List.replicate n [97],List.replicate r [oneE],false,d3z,[],0,[],zeroE,⟨[],[]⟩,zeroE,[],[]⟩
def updW(n:Nat):Wr:=⟨2,⟨[116],[]⟩,[],[],false,d3z,[],0,List.replicate n ⟨[97],oneE⟩,zeroE,⟨[],[]⟩,zeroE,[],[]⟩
def mrgW(k:Nat):Wr:=⟨4,⟨[116],[]⟩,[],[],false,d3z,[],0,[],zeroE,⟨[117],[]⟩,nameE,List.replicate k ⟨true,zeroE,3,[],[],[]⟩,[]⟩
def insH:List UInt8:=[105,110,115,101,114,116,32,105,110,116,111,32,116,32,40]
def insM:List UInt8:=[41,32,118,97,108,117,101,115,32]
def updH:List UInt8:=[117,112,100,97,116,101,32,116,32,115,101,116,32]
def mrgH:List UInt8:=[109,101,114,103,101,32,105,110,116,111,32,116,32,117,115,105,110,103,32,117,32,111,110,32,97]
def mrgO:List UInt8:=[32,119,104,101,110,32,109,97,116,99,104,101,100,32,116,104,101,110,32,100,101,108,101,116,101]
def mrgT:Nat->List UInt8
 |0=>mrgH
 |n+1=>mrgT n++mrgO
theorem one_row:rowT [oneE]=[40,49,41]:=by decide+kernel
theorem one_set:setT ⟨[97],oneE⟩=[97,32,61,32,49]:=by decide+kernel
theorem one_when:whenT ⟨true,zeroE,3,[],[],[]⟩=mrgO:=by decide+kernel
theorem name_text:eY nameE=[97]:=by decide+kernel
theorem ins_text(n r:Nat):textW (insMW (n+1) (r+1))=insH++repT [97] n++insM++repT [40,49,41] r:=by
 have h1:(List.replicate (r+1) [oneE]).map rowT=List.replicate (r+1) [40,49,41]:=(by rw[List.map_replicate,one_row]);have h2:listedT (List.replicate (n+1) ([97]:List UInt8))=[32,40]++repT [97] n++[41]:=by
  unfold listedT;rw[if_neg aa,rep_join]
 unfold textW bodyT conflT retT;show(wInsert++[32]++wInto++[32]++d4g ⟨[116],[]⟩++listedT (List.replicate (n+1) ([97]:List UInt8))++[32]++(wValues++[32]++jR [44,32] ((List.replicate (r+1) [oneE]).map rowT))++[])++[]=_;rw[h1,h2,rep_join];simp[wInsert,wInto,wValues,d4g,d4t,insH,insM]
theorem upd_text(n:Nat):textW (updW (n+1))=updH++repT [97,32,61,32,49] n:=by
 have h1:setsT (List.replicate (n+1) ⟨[97],oneE⟩)=repT [97,32,61,32,49] n:=by
  unfold setsT;rw[List.map_replicate,one_set,rep_join]
 have h2:optT d6o zeroE=[]:=au;unfold textW bodyT retT;show(wUpdate++[32]++d4g ⟨[116],[]⟩++[32]++wSet++[32]++setsT (List.replicate (n+1) ⟨[97],oneE⟩)++optT d6o zeroE)++[]=_;rw[h1,h2];simp[wUpdate,wSet,d4g,d4t,updH]
theorem whens_text:∀k,(List.replicate k (⟨true,zeroE,3,[],[],[]⟩:Wn)).flatMap whenT=(mrgT k).drop mrgH.length
 |0=>rfl
 |k+1=>by
  have hl:∀k,mrgT k=mrgH++(mrgT k).drop mrgH.length:=fun k=>by
   induction k with
   |zero=>rfl
   |succ k ih=>
    have h2:mrgT (k+1)=mrgH++((mrgT k).drop mrgH.length++mrgO):=by
     rw[<-iK,<-ih];rfl
    rw[h2,List.drop_left]
  have h2:mrgT (k+1)=mrgH++((mrgT k).drop mrgH.length++mrgO):=by
   rw[<-iK,<-hl];rfl
  rw[h2,List.drop_left,List.replicate_succ',List.flatMap_append,whens_text k];simp[one_when]
theorem mrgT_cut:∀k,mrgT k=mrgH++(mrgT k).drop mrgH.length
 |0=>rfl
 |k+1=>by
  have h2:mrgT (k+1)=mrgH++((mrgT k).drop mrgH.length++mrgO):=by
   rw[<-iK,<-mrgT_cut k];rfl
  rw[h2,List.drop_left]
theorem mrgT_len:∀k,(mrgT k).length=25+25 * k
 |0=>rfl
 |k+1=>by
  simp only[mrgT,bD,mrgT_len k];simp[mrgO];omega
theorem mrg_text(k:Nat):textW (mrgW k)=mrgT k:=by
 unfold textW bodyT retT;show(wMerge++[32]++wInto++[32]++d4g ⟨[116],[]⟩++[32]++wUsing++[32]++d4g ⟨[117],[]⟩++[32]++wOn++[32]++eY nameE++(List.replicate k (⟨true,zeroE,3,[],[],[]⟩:Wn)).flatMap whenT)++[]=_;rw[whens_text,name_text,mrgT_cut k];simp[wMerge,wInto,wUsing,wOn,d4g,d4t,mrgH]
theorem mem_rep{α:Type}{n:Nat}{a x:α}(h:x∈List.replicate n a):x=a:=(List.mem_replicate.1 h).2
theorem ins_loose(n r:Nat):looseW (insMW n (r+1))=true:=by
 have h1:(List.replicate n ([97]:List UInt8)).all mO=true:=jA.2 fun x hx=>(by rw[mem_rep hx];decide);have h2:(List.replicate (r+1) [oneE]).all rowL=true:=jA.2 fun x hx=>ee;have h3:d4c ⟨[116],[]⟩=true:=au;have h4:sameQ d3z d3z=true:=sameQ_self _;have h5:d3i zeroE=true:=au;simp[looseW,insMW,rightInL,namesL,h1,h2,h3,h4,h5]
theorem upd_loose(n:Nat):looseW (updW (n+1))=true:=by
 have h1:(List.replicate (n+1) (⟨[97],oneE⟩:St)).all (fun s=>mO s.n&&eH s.x)=true:=jA.2 fun x hx=>ee;have h3:d4c ⟨[116],[]⟩=true:=au;have h4:sameQ d3z d3z=true:=sameQ_self _;have h5:d3i zeroE=true:=au;have h6:mayB zeroE=true:=au;simp[looseW,updW,setsL,h1,h3,h4,h5,h6]
theorem mrg_loose(k:Nat):looseW (mrgW (k+1))=true:=by
 have h1:(List.replicate (k+1) (⟨true,zeroE,3,[],[],[]⟩:Wn)).all rightWnL=true:=jA.2 fun x hx=>ee;have h3:d4c ⟨[116],[]⟩=true:=au;have h3':d4c ⟨[117],[]⟩=true:=au;have h4:sameQ d3z d3z=true:=sameQ_self _;have h5:d3i zeroE=true:=au;have h6:eH nameE=true:=au;simp[looseW,mrgW,h1,h3,h3',h4,h5,h6]
theorem fit_one:Fits oneE:= .mk 1 (2,1,[]) [] [] 0 [] ⟨by decide,by decide⟩ (fun y hy=>by cases hy)
theorem fit_name:Fits nameE:= .mk 2 (0,0,[]) [] [97] 0 [] ⟨by decide,by decide⟩ (fun y hy=>by cases hy)
theorem fit_zero:Fits zeroE:= .mk 0 (0,0,[]) [] [] 0 [] ⟨by decide,by decide⟩ (fun y hy=>by cases hy)
theorem fitQ_zero:FitsQ d3z:=⟨fun i h=>an,fun i h=>an,fit_zero,fun i h=>an,fit_zero,fun i h=>an,⟨by decide,by decide⟩⟩
theorem deepQ_zero:DeepQ d3z:=⟨fun i h=>an,fun i h=>an,by decide,fun i h=>an,by decide,fun i h=>an⟩
theorem deep_zero:rY zeroE<=60:=by decide
theorem deep_name:rY nameE<=60:=by decide
theorem ins_fits(n r:Nat):FitsW (insMW n r):=⟨fun l hl x hx=>by rw[mem_rep hl] at hx;simp only[dD,List.not_mem_nil,or_false] at hx;rw[hx];exact fit_one,fitQ_zero,fun s h=>an,fit_zero,fit_zero,fun x h=>an,fun i h=>an⟩
theorem upd_fits(n:Nat):FitsW (updW n):=⟨fun l h=>an,fitQ_zero,fun s h=>by rw[mem_rep h];exact fit_one,fit_zero,fit_zero,fun x h=>an,fun i h=>an⟩
theorem mrg_fits(k:Nat):FitsW (mrgW k):=⟨fun l h=>an,fitQ_zero,fun s h=>an,fit_zero,fit_name,fun x h=>by rw[mem_rep h];exact⟨fit_zero,fun s h=>an,fun s h=>an⟩,fun i h=>an⟩
theorem ins_deep(n r:Nat):DeepW (insMW n r):=⟨fun l hl x hx=>by rw[mem_rep hl] at hx;simp only[dD,List.not_mem_nil,or_false] at hx;rw[hx];decide,deepQ_zero,fun s h=>an,deep_zero,deep_zero,fun x h=>an,fun i h=>an⟩
theorem upd_deep(n:Nat):DeepW (updW n):=⟨fun l h=>an,deepQ_zero,fun s h=>by rw[mem_rep h];decide,deep_zero,deep_zero,fun x h=>an,fun i h=>an⟩
theorem mrg_deep(k:Nat):DeepW (mrgW k):=⟨fun l h=>an,deepQ_zero,fun s h=>an,deep_zero,deep_name,fun x h=>by rw[mem_rep h];exact⟨by decide,fun s h=>an,fun s h=>an⟩,fun i h=>an⟩
theorem any_rep{α:Type}{a:α}{f:α->Bool}(h:f a=false)(n:Nat):(List.replicate n a).any f=false:=by
 rw[List.any_eq_false];intro x hx;rw[mem_rep hx,h];decide
theorem ins_many(n r:Nat):manyW (insMW n r)=(decide (64<r)||decide (32<n)):=by
 have h:(List.replicate r [oneE]).any (fun l=>decide (32<l.length))=false:=any_rep rfl r;simp[manyW,insMW,h]
theorem upd_many(n:Nat):manyW (updW n)=decide (32<n):=by simp[manyW,updW]
theorem mrg_many(k:Nat):manyW (mrgW k)=decide (8<k):=by
 have h:(List.replicate k (⟨true,zeroE,3,[],[],[]⟩:Wn)).any (fun x=>decide (32<x.sets.length)||decide (32<x.cols.length)||decide (32<x.vals.length))=false:=any_rep rfl k;simp[manyW,mrgW,h]
theorem ins_parse(n r:Nat)(hn:n+1<=40)(hr:r+1<=70):parseW (insH++repT [97] n++insM++repT [40,49,41] r)=if decide (64<r+1)||decide (32<n+1) then(270,zeroW) else(0,insMW (n+1) (r+1)):=by
 have hl:(textW (insMW (n+1) (r+1))).length<=4000:=by
  rw[ins_text];simp only[bD,repT_len,insH,insM,aX,bL];omega
 have h:=parseW_loose (ins_loose (n+1) r) (ins_fits _ _) (ins_deep _ _) hl;rw[ins_text,ins_many] at h;exact h
theorem upd_parse(n:Nat)(hn:n+1<=40):parseW (updH++repT [97,32,61,32,49] n)=if decide (32<n+1) then(270,zeroW) else(0,updW (n+1)):=by
 have hl:(textW (updW (n+1))).length<=4000:=by
  rw[upd_text];simp only[bD,repT_len,updH,aX,bL];omega
 have h:=parseW_loose (upd_loose n) (upd_fits _) (upd_deep _) hl;rw[upd_text,upd_many] at h;exact h
theorem mrg_parse(k:Nat)(hk:k+1<=12):parseW (mrgT (k+1))=if decide (8<k+1) then(270,zeroW) else(0,mrgW (k+1)):=by
 have hl:(textW (mrgW (k+1))).length<=4000:=by
  rw[mrg_text,mrgT_len];omega
 have h:=parseW_loose (mrg_loose k) (mrg_fits _) (mrg_deep _) hl;rw[mrg_text,mrg_many] at h;exact h
theorem ins_right(n r:Nat)(hn:n+1<=32)(hr:r+1<=64):rightW (insMW (n+1) (r+1))=true:=by
 have h1:(List.replicate (n+1) ([97]:List UInt8)).all mO=true:=jA.2 fun x hx=>(by rw[mem_rep hx];decide);have h2:(List.replicate (r+1) [oneE]).all rowB=true:=jA.2 fun x hx=>ee;have h3:d4c ⟨[116],[]⟩=true:=au;have h4:sameQ d3z d3z=true:=sameQ_self _;have h5:d3i zeroE=true:=au;simp[rightW,insMW,rightIn,namesB,h1,h2,h3,h4,h5,hn,hr]
end
end Go.Proofs.YtohlomdapelgeaaGreatDoor
