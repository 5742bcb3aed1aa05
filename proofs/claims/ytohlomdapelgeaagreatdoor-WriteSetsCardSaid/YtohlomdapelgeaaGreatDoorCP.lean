/- Texts N3 ST SD. -/
import Derived.Test.YtohlomdapelgeaaGreatDoorCM
import Derived.Test.YtohlomdapelgeaaGreatDoorCO
import Derived.Test.YtohlomdapelgeaaGreatDoorCJ
namespace Go.Proofs.YtohlomdapelgeaaGreatDoor
open _root_.Go.Proofs.Tryz
open Go.RowKit
open _root_.Array renaming getElem?_eq_some_iff->aC,getElem?_toList->oL
open _root_.Go.Ending renaming returned->bQ
open _root_.Go.Lib renaming cell_of_heap->aG,hid->aB
open _root_.List renaming append_assoc->iK,drop_eq_getElem_cons->aZ,drop_length->dO,eq_nil_of_length_eq_zero->lM,getElem?_drop->iE,getElem?_eq_getElem->aP,getElem?_eq_some_iff->aO,getElem?_map->iJ,getElem?_take->rA,length_append->bD,length_map->mD,map_append->kW,map_cons->kP,map_nil->qZ,mem_cons->dD,size_toArray->gG,take_add_one->dN,take_length->gJ
open _root_.Nat renaming le_refl->aH,le_trans->jH,lt_of_lt_of_le->gK,zero_add->gD,zero_le->dL
open _root_.Option renaming map_eq_some_iff->aT
set_option maxRecDepth 100000
set_option maxHeartbeats 8000000
section
def Opt(o:List UInt8)(l:List kG):Prop:=Lx o l/\Bl32 o
theorem Opt.nil:Opt [] []:=⟨Lx.nil,.inl rfl⟩
end
section
section
variable {P:Program}
theorem zeroCells_lenZ(z:Array Value)(n:Nat):(Builtin.zeroCells z n).toList.length=n * z.size:=by
 simp[Builtin.zeroCells]
theorem wpList_clear_rowZ{ops:Array Oper}{rest:List Oper}{o:Oper}{a:Act}{w:World}{Q:Exit->Act->World->Prop}(hgd:o.guard=none)(x:Operand){TS T:TypeId}(ho:o.op= .call {callee:= .builtin .clear,args:= #[x],argTypes:= #[TS]}){N:Nat}{Z:Value}
  (hT:∀w,(zeroValue T).run P w= .ok Z w) (hu:P.underlying TS=some (.slice T)) (hZ:Z.cells.size=N) {g i n c:Nat} (h1:∀u∈(Builtin.zeroCells Z.cells n).toList,u.oneCell'=true) (hx:a.eval x= .slice (some ⟨g,i,none⟩) n c) (hn:0<n) {t:TypeId} {old:List Value}
  (hb:w.heap[g]?=some (.cells old.toArray t (0,0))) (hl:i+n * N<=old.length)
  (h:∀(w':World) (new:List Value),But g w w'->w'.heap[g]?=some (.cells new.toArray t (0,0))->new.length=old.length->new.take i=old.take i->wpList P ops Q rest (a.put o.dst (.tuple #[])) w'):wpList P ops Q (o::rest) a w:=by
 have hlen:=zeroCells_lenZ Z.cells n;rw[hZ] at hlen;have hs:=run_storeCells_at (P:=P) g i t (Builtin.zeroCells Z.cells n).toList 0 old.toArray w hb (by rw[hlen];simpa using hl) h1;simp only[Nat.add_zero] at hs;have hr:(Builtin.clear_ #[TS] o.type #[.slice (some ⟨g,i,none⟩) n c]).run P w= .ok (.tuple #[]) (w.setRow g (old.take i++(Builtin.zeroCells Z.cells n).toList++old.drop (i+n * N)).toArray):=by
  obtain⟨m,rfl⟩:∃m,n=m+1:=⟨n-1,by omega⟩
  rw[hlen] at hs;simp[Builtin.clear_,run_underlying hu,hT,hs]
 refine wpList_plain hgd fun K hK=>?_;unfold Oper.wp execOp;simp only[ho,resolve,invoke,builtin,Sem.run_bind,Sem.run_pure,Result.andThen_ok,List.map_toArray,kP,qZ,hx,hr];refine hK _ _ (h _ _ (But.row g w _) (setRow_heap w g _ _ t _ hb) ?_ ?_)
 ·rw[bD,bD,List.length_take,List.length_drop,hlen];omega
 ·rw[iK,List.take_append_of_le_length (by rw[List.length_take];omega),List.take_take,Nat.min_self]
end
theorem zeroStr_run(w:World):(zeroValue 9).run prog w= .ok (S []) w:=by kernel_rfl
theorem zeroStr_one(n:Nat):∀u∈(Builtin.zeroCells (S []).cells n).toList,u.oneCell'=true:=by
 intro u hu;have e:(S []).cells= #[S []]:=rfl;rw[e] at hu;simp only[Builtin.zeroCells,Array.toList_map,List.mem_map] at hu;obtain⟨i,-,rfl⟩:=hu;have h3:i % 1=0:=aE;show(#[S []][i % 1]!).oneCell'=true;rw[h3];rfl
def fullT(x:List UInt8):Bool:= !x.isEmpty
def idxS:Nat->List (List UInt8)->Int
 |_,[]=> -1
 |i,x::r=>if x=[] then i else idxS (i+1) r
theorem idxS_drop{l:List (List UInt8)}{j:Nat}(hj:j<l.length):idxS j (l.drop j)=if l[j]=[] then(j:Int) else idxS (j+1) (l.drop (j+1)):=by
 rw[aZ hj];rfl
theorem idxS_at:∀(l:List (List UInt8)) (i:Nat),(idxS i l= -1/\∀x∈l,x≠[])\/∃k,∃h:k<l.length,idxS i l=((i+k:Nat):Int)/\l[k]=[]/\∀x∈l.take k,x≠[]
 |[],i=> .inl ⟨rfl,fun x h=>by cases h⟩
 |x::r,i=>by
  by_cases hx:x=[]
  ·exact .inr ⟨0,by simp,by simp[idxS,hx],hx,fun y h=>by simp at h⟩
  ·rcases idxS_at r (i+1) with⟨h1,h2⟩|⟨k,hk,h1,h2,h3⟩
   ·exact .inl ⟨by simp[idxS,hx,h1],fun y hy=>by rcases dD.1 hy with rfl|hy;exact hx;exact h2 y hy⟩
   ·refine .inr ⟨k+1,by simp;omega,?_,h2,fun y hy=>?_⟩
    ·simp only[idxS,if_neg hx,h1];omega
    ·rw[List.take_succ_cons] at hy;rcases dD.1 hy with rfl|hy
     ·exact hx
     ·exact h3 y hy
theorem snocT(l:List (List UInt8)){j:Nat}(hj:j<l.length):l.take (j+1)=l.take j++[l[j]]:=by rw[dN,aP hj];rfl
theorem full_no{l:List (List UInt8)}{j:Nat}(hj:j<l.length)(h:l[j]=[]):(l.take (j+1)).filter fullT=(l.take j).filter fullT:=by
 rw[snocT l hj,List.filter_append,h];simp[fullT]
theorem full_yes{l:List (List UInt8)}{j:Nat}(hj:j<l.length)(h:l[j]≠[]):(l.take (j+1)).filter fullT=(l.take j).filter fullT++[l[j]]:=by
 rw[snocT l hj,List.filter_append]
 congr 1
 simp[fullT,h]
theorem full_all{l:List (List UInt8)}(h:∀x∈l,x≠[]):l.filter fullT=l:=List.filter_eq_self.2 fun x hx=>by simp[fullT,h x hx]
structure DelS(l:List (List UInt8))(g cap k j:Nat)(cur:List Value)(A:World):Prop where
 heap:A.heap[g]?=some (.cells cur.toArray 9 (0,0))
 len:cur.length=cap
 cnt:k=((l.take j).filter fullT).length
 pre:cur.take k=((l.take j).filter fullT).map fun x=>S x
 rest:∀a (h:a<l.length),j<=a->cur[a]?=some (S l[a])
 fit:l.length<=cap
theorem DelS.cell{l:List (List UInt8)}{g cap k j:Nat}{cur:List Value}{A:World}(h:DelS l g cap k j cur A)(hj:j<l.length):A.cell? ⟨g,j,none⟩=some (S l[j]):=by
 rw[aG h.heap];simpa using h.rest j hj (aH _)
theorem DelS.skip{l:List (List UInt8)}{g cap k j:Nat}{cur:List Value}{A:World}(h:DelS l g cap k j cur A)(hj:j<l.length)(hp:l[j]=[]):DelS l g cap k (j+1) cur A:=
 ⟨h.heap,h.len,by rw[full_no hj hp];exact h.cnt,by rw[full_no hj hp];exact h.pre,fun a ha hja=>h.rest a ha aE,h.fit⟩
theorem DelS.le{l:List (List UInt8)}{g cap k j:Nat}{cur:List Value}{A:World}(h:DelS l g cap k j cur A):k<=j:=by
 rw[h.cnt];exact jH (List.length_filter_le _ _) (List.length_take_le _ _)
theorem DelS.keep{l:List (List UInt8)}{g cap k j:Nat}{cur:List Value}{A B:World}(h:DelS l g cap k j cur A)(hj:j<l.length)(hp:l[j]≠[])(hb:B.heap[g]?=some (.cells (cur.take k++[S l[j]]++cur.drop (k+1)).toArray 9 (0,0))):DelS l g cap (k+1) (j+1) (cur.take k++[S l[j]]++cur.drop (k+1)) B:=by
 have hk:=h.le;have hl:=h.len;have hf:=h.fit;have hlt:(cur.take k).length=k:=(by rw[List.length_take];omega);refine⟨hb,?_,?_,?_,fun a ha hja=>?_,h.fit⟩
 ·rw[bD,bD,hlt,List.length_drop];simp;omega
 ·rw[full_yes hj hp,bD,<-h.cnt];rfl
 ·rw[full_yes hj hp,kW,<-h.pre];have e:k+1=(cur.take k++[S l[j]]).length:=(by rw[bD,hlt];rfl);rw[e,List.take_left];rfl
 ·rw[List.getElem?_append_right (by rw[bD,hlt];simp;omega),bD,hlt,iE,<-h.rest a ha aE]
  congr 1
  simp;omega
theorem zwords1_any(x:List UInt8)(W:World):eg 80 #[S x] W fun e w'=>e= .returned (.bool x.isEmpty)/\W=w':=by
 go_enter func80,ntmps80;go_wp2;go_ret;refine⟨?_,rfl⟩;cases x<;>rfl
theorem enters_zwords1(args:Array Value)(w:World):(callFunc 80 args).run prog w= .ok (.enter 80 args) w:=by
 simp[go_sem]
theorem sIndex_any{W:World}{a:Option Addr}{cap:Nat}{l:List (List UInt8)}(hlen:l.length<=1000000)(hR:∀j (hj:j<l.length),∃b off,a=some ⟨b,off,none⟩/\W.cell? ⟨b,off+j,none⟩=some (S l[j])):
  eg 126 #[.slice a l.length cap,.func (.func 80) #[] #[]] W fun e w'=>e= .returned (.int .i64 (idxS 0 l))/\W=w':=by
 obtain⟨R,HR⟩:∃R,Hid (idxS 0 l=R):=⟨_,rfl⟩
 rw[HR.o];have HC:=aB hR;have hen:=enters_zwords1;clear hR;go_enter func126,ntmps126;go_wp2_with fail;go_loopw [8] (fun i wr=>∃j:Nat,j<=l.length/\i= .int .i64 (j:Int)/\Hid (R=idxS j (l.drop j))/\W=wr) (fun i _=>l.length-(intOf i).toNat)
 case atStart=>exact⟨0,dL _,rfl,HR.o.symm,rfl⟩
 case round=>
  obtain⟨j,hj,rfl,HD,rfl⟩:=hrel;by_cases hlt:j<l.length
  ·obtain⟨b,off,rfl,e0⟩:=HC.o j hlt;have HDj:=aB (HD.o.trans (idxS_drop hlt));have hlt':(j:Int)<(l.length:Int):=aE;generalize l[j]=y at *;go_wp2_with fail;refine(zwords1_any y _).mono ?_;rintro e w1 ⟨rfl,rfl⟩;clear e0;by_cases hs:y=[]
   ·have HN:=aB (show R=(j:Int) from by rw[HDj.o,if_pos hs]);subst hs;go_wp2;go_ret;exact⟨by rw[HN.o]<;>rfl,by first |rfl|trivial⟩
   ·have HN:=aB (show R=idxS (j+1) (l.drop (j+1)) from by rw[HDj.o,if_neg hs]);have hs2:y.isEmpty=false:=(by simpa using hs);clear hs;go_wp2;go_roundw
    case rel=>exact⟨j+1,by omega,by go_num,HN.o,by first |rfl|trivial⟩
    case measure=>simp[intOf];omega
  ·obtain rfl:j=l.length:=by omega
   have HN:=aB (show R= -1 from by rw[HD.o,dO];rfl);have hge:¬((l.length:Int)<(l.length:Int)):=aE;go_wp2;go_ret;exact⟨by rw[HN.o]<;>rfl,by first |rfl|trivial⟩
theorem sDelete_any{W:World}{base:Nat}{v:Value}{l:List (List UInt8)}(hlen:l.length<=1000000)(hown:W.ownsRow base 9 1 v l.length (l.map fun x=>S x)):
  eg 79 #[v,.func (.func 80) #[] #[]] W fun e w'=>(∃v',e= .returned v'/\w'.ownsRow base 9 1 v' (l.filter fullT).length ((l.filter fullT).map fun x=>S x))/\W.grownBy w' v.ownBlock:=by
 have hen:=enters_zwords1;obtain⟨hln,h0|⟨g0,cap,cur,rfl,hg0,hh0,hcap,hmax,hsz,htk⟩⟩:=id hown
 ·obtain⟨rfl,h0⟩:=h0;obtain rfl:l=[]:=lM h0;have HI:=aB (sIndex_any (W:=W) (a:=none) (cap:=0) (l:=[]) aa (fun j hj=>by cases hj));have HOW:=aB hown;clear hown hln;go_enter func79,ntmps79;go_wp2_with fail;refine HI.o.mono ?_;rintro e w1 ⟨rfl,rfl⟩;simp only[idxS];go_wp2;go_ret;exact⟨⟨_,rfl,HOW.o⟩,rfl,rfl,rfl,aH _,fun _ _ _=>rfl⟩
 have hcell:∀a (h:a<l.length),cur.toList[a]?=some (S l[a]):=fun a ha=>by
  have h1:(cur.toList.take (l.length * 1))[a]?=cur.toList[a]?:=(by rw[rA,if_pos aE]);rw[<-h1,htk,iJ,aP ha];rfl
 have HI:=aB (sIndex_any (W:=W) (a:=some ⟨g0,0,none⟩) (cap:=cap) hlen (fun j hj=>⟨g0,0,rfl,by rw[aG hh0,gD,<-oL];exact hcell j hj⟩));rcases idxS_at l 0 with⟨hz,hall⟩|⟨k0,hk0,hz,hp0,hpre⟩
 ·rw[hz] at HI;have HOW:=aB hown;rw[full_all hall];clear hz hall hown hcell hh0 hcap hmax hsz htk hln;go_enter func79,ntmps79;go_wp2_with fail;refine HI.o.mono ?_;rintro e w1 ⟨rfl,rfl⟩;go_wp2;go_ret;exact⟨⟨_,rfl,HOW.o⟩,rfl,rfl,rfl,aH _,fun _ _ _=>rfl⟩
 ·rw[hz,gD] at HI;have HD0:Hid (DelS l g0 cap k0 (k0+1) cur.toList W):=by
   have hft:(l.take (k0+1)).filter fullT=l.take k0:=(by rw[full_no hk0 hp0];exact full_all hpre);refine⟨by simpa using hh0,by simpa using hsz,?_,?_,fun a ha _=>hcell a ha,hcap⟩
   ·rw[hft,List.length_take];omega
   ·rw[hft];have h2:(cur.toList.take (l.length * 1)).take k0=cur.toList.take k0:=(by rw[List.take_take];congr 1;omega);rw[<-h2,htk,<-List.map_take]
  have HMX:=aB hmax;clear hz hpre hh0 hsz htk hcap hp0 hown hmax hcell hln;have gk0:((k0:Int)== -1)=false:=by
   rw[beq_eq_false_iff_ne];omega
  have hgW:g0<W.heap.size:=(aC.1 HD0.o.heap).1;go_enter func79,ntmps79;go_wp2_with fail;refine HI.o.mono ?_;rintro e w1 ⟨rfl,rfl⟩;go_wp2_with fail;go_loopw [5,6] (fun i jv wr=>∃(k j:Nat) (cu:List Value),i= .int .i64 (k:Int)/\jv= .int .i64 (j:Int)/\k<j/\j<=l.length/\Hid (DelS l g0 cap k j cu wr)/\Hid (W.grownBy wr (some g0))) (fun _ jv _=>l.length-(intOf jv).toNat)
  case atStart=>exact⟨k0,k0+1,_,by simp,by go_num,by omega,by omega,HD0.o,rfl,rfl,rfl,aH _,fun _ _ _=>rfl⟩
  case round=>
   obtain⟨k,j,cu,rfl,rfl,hkj,hj,HD,HB⟩:=hrel;have hgr:g0<wr.heap.size:=(aC.1 HD.o.heap).1;by_cases hlt:j<l.length
   ·have e0:=HD.o.cell hlt;have hlt':(j:Int)<(l.length:Int):=aE;have HSK:=aB (fun h=>HD.o.skip hlt h);have HKP:=aB (fun(B:World) h hb=>HD.o.keep (B:=B) hlt h hb);have hkl:(k:Int)<(l.length:Int):=aE;have hfit:k+1<=cu.length:=(by have:=HD.o.len;have:=HD.o.fit;omega);generalize l[j]=y at *;go_wp2_with fail;refine(zwords1_any y _).mono ?_;rintro e w2 ⟨rfl,rfl⟩;clear e0;by_cases hs:y=[]
    ·have HD3:=aB (HSK.o hs);subst hs;clear HSK HKP;go_wp2;go_roundw
     case rel=>exact⟨k,j+1,_,rfl,by go_num,by omega,by omega,HD3.o,HB.o⟩
     case measure=>simp[intOf];omega
    ·have HKK:=aB (fun(B:World) hb=>HKP.o B hs hb);have hs2:y.isEmpty=false:=(by simpa using hs);have HG:=aB HD.o.heap;clear hs HSK HKP;go_wp2_with (refine bA (g:=g0) (i:=k) rfl rfl rfl rfl (cu.take k++[S y]++cu.drop (k+1)) HG.o rfl (decide_eq_true hfit) stInfoZ rfl ?_)
     intro w3 hB3 hX3;have HB3:=aB (show W.grownBy w3 (some g0) from dA HB.o hB3.grown);have HD3:=aB (HKK.o w3 (by rw[iK];exact hX3));clear hX3 hB3;go_wp2;go_roundw
     case rel=>exact⟨k+1,j+1,_,by go_num,by go_num,by omega,by omega,HD3.o,HB3.o⟩
     case measure=>simp[intOf];omega
   ·obtain rfl:j=l.length:=by omega
    have hge:¬((l.length:Int)<(l.length:Int)):=aE;have hkl:(k:Int)<=(l.length:Int):=aE;have hlc:(l.length:Int)<=(cap:Int):=(by have:=HD.o.fit;omega);have hkc:(k:Int)<=(cap:Int):=aE;have hk0':(0:Int)<=(k:Int):=aE;have HG:=aB HD.o.heap;have hpos:0<l.length-k:=aE;have hfit2:k+(l.length-k) * 1<=cu.length:=(by have:=HD.o.len;have:=HD.o.fit;omega);go_wp2_with (refine wpList_clear_rowZ (P:=prog) (T:=9) (TS:=27) (N:=1) (Z:=S []) (g:=g0) (i:=k) (n:=l.length-k) (c:=cap-k) (t:=9) (old:=cu) rfl (.tmp 38) rfl zeroStr_run underlying27 rfl (zeroStr_one _) rfl hpos HG.o hfit2 ?_)
    intro w3 new hB3 hX3 hnl hnt;have HB3:=aB (show W.grownBy w3 (some g0) from dA HB.o hB3.grown);have HOW:Hid (w3.ownsRow base 9 1 (.slice (some ⟨g0,0,none⟩) k cap) (l.filter fullT).length ((l.filter fullT).map fun x=>S x)):=by
     have hc:=HD.o.cnt;have hp:=HD.o.pre;rw[gJ] at hc hp;refine⟨by simp,.inr ⟨g0,cap,new.toArray,by rw[hc],hg0,hX3,by rw[<-hc];omega,?_,?_,?_⟩⟩
     ·exact HMX.o
     ·simp only[gG];rw[hnl,HD.o.len];omega
     ·rw[<-hc,Nat.mul_one,hnt,hp]
    clear hX3 hB3 hnl hnt;go_wp2;go_ret;exact⟨⟨_,rfl,HOW.o⟩,HB3.o⟩
theorem filter_sum(l:List (List UInt8)):(l.filter fullT).length<=l.length:=List.length_filter_le _ _
theorem zwords_any{W:World}{base:Nat}{v:Value}{l:List (List UInt8)}(hlen:l.length<=1000000)(hown:W.ownsRow base 9 1 v l.length (l.map fun x=>S x))(hsome:∃x∈l,x≠[])(hj:(jR [32] (l.filter fullT)).length<=100000000):
  eg 24 #[v] W fun e w'=>e= .returned (S (jR [32] (l.filter fullT)))/\W.grownBy w' v.ownBlock:=by
 have HD:=aB (sDelete_any hlen hown);have hne:l.filter fullT≠[]:=fun e=>by
  obtain⟨x,hx,h⟩:=hsome;have:x∈l.filter fullT:=List.mem_filter.2 ⟨hx,by simp[fullT,h]⟩;rw[e] at this;cases this
 have HNE:=aB hne;have hfl:=filter_sum l;have HJ:=aB hj;generalize l.filter fullT=m at *;obtain⟨jl,hjl⟩:∃jl,Hid (jR [32] m=jl):=⟨_,rfl⟩
 rw[hjl.o];clear hown hne hsome hj;go_enter func24,ntmps24;go_wp2_with fail;refine HD.o.mono ?_;rintro e w1 ⟨⟨v',rfl,ho⟩,hg⟩;have hst:sW w1 v' m:=(b8c ho).elim (fun h=>absurd h.1 HNE.o) id;have HG:=aB hg;have HK:=aB (b0j hst [32] aE HJ.o);rw[hjl.o] at HK;obtain⟨b,cap,rfl,-⟩:=hst;clear ho hg;go_wp2_with fail;refine HK.o.mono ?_;rintro e w2 ⟨rfl,hb⟩;go_wp2;go_ret;exact⟨rfl,dA HG.o (gI hb _)⟩
def StrsO(W:World)(sv:Value)(l:List (List UInt8)):Prop:=∃b off cap,sv= .slice (some ⟨b,off,none⟩) l.length cap/\l.length<=cap/\b<W.heap.size/\∀j (h:j<l.length),W.cell? ⟨b,off+j,none⟩=some (S l[j])
theorem sW.o{W:World}{sv:Value}{l:List (List UInt8)}(h:sW W sv l):StrsO W sv l:=by
 obtain⟨b,cap,e,h1,h2,h3⟩:=h;exact⟨b,0,cap,e,h1,h2,fun j hj=>by rw[gD];exact h3 j hj⟩
theorem StrsO.bl{A B:World}{sv:Value}{l:List (List UInt8)}(h:StrsO A sv l)(hb:Bl A B):StrsO B sv l:=by
 obtain⟨b,off,cap,e,hc,hl,hcs⟩:=h;exact⟨b,off,cap,e,hc,gK hl hb.size,fun j hj=>hb.cell (hcs j hj)⟩
theorem joinO_any{W:World}{sv:Value}{l:List (List UInt8)}(h:StrsO W sv l)(sep:List UInt8)(hm:l.length<=1000000)(hlen:(jR sep l).length<=100000000):
  eg 78 #[sv,S sep] W fun e w'=>e= .returned (S (jR sep l))/\Bl W w':=by
 obtain⟨b,off,cap,rfl,hcap,hb,hc⟩:=h;have e1:(l.map fun s=>(⟨s.toArray⟩:ByteArray)).map (·.data.toList)=l:=(by simp[Function.comp_def]);have hj:=Tryz.strings_Join b off cap (l.map fun s=>⟨s.toArray⟩) ⟨sep.toArray⟩ W (fun j x hx=>by
  rw[iJ] at hx;obtain⟨s,hs,rfl⟩:=aT.1 hx;obtain⟨hl,e⟩:=aO.1 hs;rw[hc j hl,e]) hb ak (by simpa using hcap) (by
  rw[e1];show(Lib.join l sep).length<=_;rw[<-a5y];omega)
 rw[e1,mD] at hj;refine hj.mono ?_;rintro e w' ⟨rfl,hw⟩;refine⟨?_,hw⟩;show bQ (.string ⟨(Lib.join l sep).toArray⟩)=_;rw[<-a5y]
theorem zcommas_any{W:World}{sv:Value}{l:List (List UInt8)}(h:StrsO W sv l)(hm:l.length<=1000000)(hlen:(jR [44,32] l).length<=100000000):eg 58 #[sv] W fun e w'=>e= .returned (S (jR [44,32] l))/\Bl W w':=by
 have HJ:=aB (joinO_any h [44,32] hm hlen);obtain⟨b,off,cap,rfl,-⟩:=h;generalize jR [44,32] l=jl at *;clear hlen;go_enter func58,ntmps58;go_wp2_with fail;refine HJ.o.mono ?_;rintro e w1 ⟨rfl,hb⟩;go_wp2;go_ret;exact⟨rfl,hb⟩
theorem znested_any{W:World}{sv:Value}{l:List (List UInt8)}(h:(l=[]/\∃a c,sv= .slice a 0 c)\/StrsO W sv l)(hm:l.length<=1000000)(hlen:(jR [44,32] l).length<=100000000):
  eg 63 #[sv] W fun e w'=>e= .returned (S (if l=[] then[] else[40]++jR [44,32] l++[41]))/\Bl W w':=by
 by_cases h0:l=[]
 ·subst h0;obtain⟨a,c,rfl⟩:∃a c,sv= .slice a 0 c:=by
   rcases h with⟨-,a,c,e⟩|⟨b,off,c,e,-⟩
   ·exact⟨a,c,e⟩
   ·exact⟨_,_,e⟩
  go_enter func63,ntmps63;go_wp2;go_ret;exact⟨rfl,Bl.refl W⟩
 ·have hst:StrsO W sv l:=h.elim (fun h=>absurd h.1 h0) id;have HJ:=aB (zcommas_any hst hm aE);obtain⟨b,off,cap,rfl,-⟩:=hst;rw[if_neg h0];have hl0:((l.length:Int)==0)=false:=by
   rw[beq_eq_false_iff_ne];intro e;exact h0 (lM aE)
  generalize jR [44,32] l=jl at *;clear h h0;go_enter func63,ntmps63;go_wp2_with fail;refine HJ.o.mono ?_;rintro e w1 ⟨rfl,hb⟩;go_wp2;go_ret;exact⟨rfl,hb⟩
end
section
theorem FrZ.but{W A B:World}{bs:Nat}{T:TypeId}{cs cs':Array Value}(h:FrZ W A bs T cs)(hb:But (W.heap.size+1) A B)(hx:B.heap[W.heap.size+1]?=some (.cells cs' T (0,0))):FrZ W B bs T cs':=
 ⟨But.from h.grown hb aE,(hb.same _ aE).trans h.r,hx⟩
theorem RowsG.butG{α:Type}{F:Shp α}{b:Nat}{A B:World}{p:Nat->Prop}{sv:Value}{l:List α}(h:RowsG F p A sv l)(hb:But b A B)(hp:∀i,p i->i≠b):RowsG F p B sv l:=h.keep dk (fun _ _ h=>h) fun i hi _=>hb.same i (hp i hi)
theorem d2u.bind_bad{α β:Type}{r:d2u α}{f:Nat->α->d2u β}{c:Int}(h:r= .bad c):r.bind f= .bad c:=by rw[h];rfl
theorem d2u.bind_yes{α β:Type}{r:d2u α}{f:Nat->α->d2u β}{k:Nat}{x:α}(h:r= .good k x):r.bind f=f k x:=by rw[h];rfl
theorem zneed_any{W:World}{bs g cap k:Nat}{ts:List Tok}(h:iV W bs g cap ts k)(xs:List (List UInt8))(cs:Array Value)(n b:Nat)(t:TypeId)(hcs:cs=(xs.map fun s=>S s).toArray)(hn:n=xs.length)(hm:xs.length<=1000000)(hb:b=W.heap.size):
  eg 193 #[RV bs,.slice (some ⟨b,0,none⟩) n n] (W.alloc (.cells cs t)) (d2o (fun _ (_:Unit) v=>v= .tuple #[]) bs g cap ts W (needR ts k xs)):=by
 cases ht:bH ts k xs with
 |none=>exact(zneed_no h xs ht cs n b t hcs hn hm hb).mono fun e w' ⟨he,hg,hs⟩=>by subst he;exact d2o.no hg hs (.inr (.inl rfl)) (by unfold needR;rw[ht])
 |some k'=>exact(zneed_yes h xs ht cs n b t hcs hn hm hb).mono fun e w' ⟨he,hg,hs⟩=>by subst he;exact d2o.yes hg hs (by unfold needR;rw[ht]) rfl
theorem zsource_any{W:World}{bs g cap k:Nat}{ts:List Tok}(h:iV W bs g cap ts k):eg 92 #[RV bs] W (d2o e6j bs g cap ts W (d3b ts k)):=by
 have HB0:=aB (((Bl.refl W).alloc (.cells #[.pointer (some ⟨bs,0,none⟩)] 122)).alloc (.cells #[S [],S []] 26));have HF0:=aB (FrZ.start W bs 26 #[S [],S []]);obtain⟨R,HR⟩:∃R,Hid (R=(nameRW ts k).bind fun k1 n=>(asR ts k1).bind fun k2 a=> .good k2 (⟨n,a⟩:So)):=⟨_,rfl⟩
 rw[show d3b ts k=R from(d4h ts k).trans HR.o.symm];have H:=aB h;have hbl:=h.lt';have hgl:=h.gl;clear h;go_enter func92,ntmps92;go_wp2_with fail;refine(zname_any (H.o.bl HB0.o)).mono ?_;intro e w1 hp;obtain⟨hg1,k1,hs1,hcase⟩:=hp;have HF1:=aB (HF0.o.next hbl hg1);rcases hcase with⟨n,v,hr1,rfl,rfl⟩|⟨c,hc,hr1,rfl⟩
 rotate_left
 ·have HE:=aB (HR.o.trans (d2u.bind_bad hr1));have HS1:=aB hs1;clear hg1 hr1 hs1;go_wp2;exact⟨rfl,d2o.no HF1.o.grown HS1.o hc HE.o⟩
 have HE:=aB (HR.o.trans (d2u.bind_yes hr1));have hb2:Bl w1 (w1.alloc (.cells #[S n,S []] 26)):=(Bl.refl w1).alloc _;have HF2:=aB (HF1.o.bl hb2);have HS2:=aB (hs1.bl hb2);have HX2:=aB (aN w1 (.cells #[S n,S []] 26));have hz1:=HF1.o.size;clear hg1 hr1 hs1 hb2 HF1;obtain⟨n1,hn1⟩:∃n1,w1.heap.size=n1:=⟨_,rfl⟩
 go_upto_region 2 with fail
 obtain⟨u,hu⟩:∃u,w1.alloc (.cells #[S n,S []] 26)=u:=⟨_,rfl⟩
 change Code.wp _ _ _ _ (w1.alloc (.cells #[S n,S []] 26));rw[hu] at HF2 HS2 HX2⊢
 try rw[hn1] at HX2
 try rw[hn1]
 rw[hn1] at hz1;clear hu hn1;have a0:=cK HF2.o.r;have hzu:n1<u.heap.size:=(aC.1 HX2.o).1;cases ht:bH ts k1 [wAs] with
 |none=>
  have HT:=aB ht;have HE2:=aB (show R= .good k1 ⟨n,[]⟩ from by rw[HE.o];unfold asR;rw[ht];rfl);clear ht;go_wp2_with fail;refine(kM HS2.o [wAs] HT.o _ 1 _ _ rfl rfl aa aa).mono ?_;rintro e w3 ⟨rfl,hg3,hs3⟩;have HF3:=aB (HF2.o.next hbl hg3);have HS3:=aB hs3;obtain⟨c0,c1,-,-,-⟩:=aU ((hg3.block n1 hzu (fun e=>by injection e with e;omega)).trans HX2.o);clear hg3 hs3 a0;go_wp2_with (refine bA (g:=W.heap.size+1) (i:=0) rfl rfl rfl rfl [S n,S []] HF3.o.x rfl rfl d7e rfl ?_)
  intro w9 hB9 hX9;go_wp2;refine bodyPost_ret (v:= .agg #[S n,S []]) (results_cell_row (p:=2) (ty:=26) rfl _ _ (W.heap.size+1) 26 _ (0,0) _ rfl hX9 underlying26 rfl d7e) rfl ?_;exact d2o.yes (HF3.o.but hB9 hX9).grown (HS3.o.but hB9 aE aE) HE2.o rfl
 |some k2=>
  have HT:=aB ht;clear ht;go_wp2_with fail;refine(jD HS2.o [wAs] HT.o _ 1 _ _ rfl rfl aa aa).mono ?_;rintro e w3 ⟨rfl,hg3,hs3⟩;have HF3:=aB (HF2.o.next hbl hg3);have HS3:=aB hs3;have HX3:=aB ((hg3.block n1 hzu (fun e=>by injection e with e;omega)).trans HX2.o);clear hg3 hs3 a0;have a0:=cK HF3.o.r;go_wp2_with fail;refine(zname_any HS3.o).mono ?_;intro e w4 hp;obtain⟨hg4,k4,hs4,hcase⟩:=hp;have HF4:=aB (HF3.o.next hbl hg4);have HS4:=aB hs4;have HX4:=aB ((hg4.block n1 (aC.1 HX3.o).1 (fun e=>by injection e with e;omega)).trans HX3.o);clear hg4 hs4 a0;rcases hcase with⟨al,v,hr4,rfl,rfl⟩|⟨c,hc,hr4,rfl⟩
  ·have HE2:=aB (show R= .good k4 ⟨n,al⟩ from by
    rw[HE.o];unfold asR;rw[HT.o];simp only;unfold nameRW at hr4;cases hn:mM ts k2 with
    |none=>rw[hn] at hr4;cases hr4
    |some q=>rw[hn] at hr4;injection hr4 with h1 h2;subst h1 h2;rfl)
   clear hr4;go_wp2_with (refine bA (g:=n1) (i:=1) rfl rfl rfl rfl [S n,S al] HX4.o rfl rfl stInfoZ rfl ?_)
   intro w5 hB5 hX5;have HX5:=aB hX5;have HF5:=aB (show FrZ W w5 bs 26 #[S [],S []] from⟨But.from HF4.o.grown hB5 aE,(hB5.same _ aE).trans HF4.o.r,(hB5.same _ aE).trans HF4.o.x⟩);have HS5:=aB (HS4.o.but hB5 aE aE);clear hB5 hX5;obtain⟨c0,c1,-,-,-⟩:=aU HX5.o;go_wp2_with (refine bA (g:=W.heap.size+1) (i:=0) rfl rfl rfl rfl [S n,S al] HF5.o.x rfl rfl d7e rfl ?_)
   intro w9 hB9 hX9;go_wp2;refine bodyPost_ret (v:= .agg #[S n,S al]) (results_cell_row (p:=2) (ty:=26) rfl _ _ (W.heap.size+1) 26 _ (0,0) _ rfl hX9 underlying26 rfl d7e) rfl ?_;exact d2o.yes (HF5.o.but hB9 hX9).grown (HS5.o.but hB9 aE aE) HE2.o rfl
  ·have HE2:=aB (show R= .bad c from by
    rw[HE.o];unfold asR;rw[HT.o];simp only;unfold nameRW at hr4;cases hn:mM ts k2 with
    |none=>rw[hn] at hr4;injection hr4 with h1;rw[h1];rfl
    |some q=>rw[hn] at hr4;cases hr4)
   clear hr4;go_wp2;exact⟨rfl,d2o.no HF4.o.grown HS4.o hc HE2.o⟩
theorem zmaybe_any{W:World}{bs g cap k:Nat}{ts:List Tok}(h:iV W bs g cap ts k)(hT:lC ts)(wd:List UInt8):eg 195 #[RV bs,S wd] W (d2o (d7p fEx W.heap.size) bs g cap ts W (d3s ts wd k)):=by
 have HB0:=aB (((Bl.refl W).alloc (.cells #[.pointer (some ⟨bs,0,none⟩)] 122)).alloc (.cells zC 38));have HF0:=aB (FrZ.start W bs 38 zC);have HTK:=aB hT;obtain⟨R,HR⟩:∃R,Hid (R=d3s ts wd k):=⟨_,rfl⟩
 rw[<-HR.o];clear hT;have H:=aB h;have hbl:=h.lt';have hgl:=h.gl;clear h;cases ht:bH ts k [wd] with
 |none=>
  have HT:=aB ht;have HE:=aB (show R= .good k zeroE from by rw[HR.o];unfold d3s;rw[ht]);clear ht;go_enter func195,ntmps195;go_wp2_with fail;refine(kM (H.o.bl HB0.o) [wd] HT.o _ 1 _ _ rfl rfl aa aa).mono ?_;rintro e w1 ⟨rfl,hg,hs⟩;have HF1:=aB (HF0.o.next hbl hg);have HS1:=aB hs;clear hg hs;go_wp2_with (refine bA (g:=W.heap.size+1) (i:=0) rfl rfl rfl rfl [.int .i64 0,.int .i64 0,.int .i64 0,S [],S [],S [],.int .i64 0,.slice none 0 0] HF1.o.x rfl rfl d4b rfl ?_)
  intro w9 hB9 hX9;go_wp2;refine bodyPost_ret (v:=EV 0 (0,0,[]) [] [] 0 (.slice none 0 0)) (results_cell_row (p:=4) (ty:=38) rfl _ _ (W.heap.size+1) 38 _ (0,0) _ rfl hX9 underlying38 rfl d4b) rfl ?_;exact d2o.yes (HF1.o.but hB9 hX9).grown (HS1.o.but hB9 aE aE) HE.o ⟨_,rfl,bG.nil _ _ _ _⟩
 |some k1=>
  have HT:=aB ht;have HE:=aB (show R=d3j ts k1 from by rw[HR.o];unfold d3s;rw[ht]);clear ht;go_enter func195,ntmps195;go_wp2_with fail;refine(jD (H.o.bl HB0.o) [wd] HT.o _ 1 _ _ rfl rfl aa aa).mono ?_;rintro e w1 ⟨rfl,hg,hs⟩;have HF1:=aB (HF0.o.next hbl hg);have HS1:=aB hs;clear hg hs;have a0:=cK HF1.o.r;have hz1:=HF1.o.size;go_wp2_with fail;refine(zexpr_any HS1.o HTK.o).mono ?_;intro e w2 hp;obtain⟨hg2,k2,hs2,hcase⟩:=hp.openE;have HF2:=aB (HF1.o.next hbl hg2);have HS2:=aB hs2;clear hp hg2 hs2 a0;rcases hcase with⟨xk,x1,x2,x3,xt,xn,xo,xa,asv,csv,hr,hA,rfl⟩|⟨c,hc,hr,rfl⟩
  ·have HA:=aB (hA.of (q:=fun b=>W.heap.size+2<=b) fun b _ (hb:_<=b)=>by omega);have HE2:=aB (HE.o.trans hr);clear hr hA;go_wp2_with (refine bA (g:=W.heap.size+1) (i:=0) rfl rfl rfl rfl [.int .i64 xk,.int .i64 x1,.int .i64 x2,S x3,S xt,S xn,.int .i64 xo,.slice asv xa.length csv] HF2.o.x rfl rfl d4b rfl ?_)
   intro w9 hB9 hX9;go_wp2;refine bodyPost_ret (v:=EV xk (x1,x2,x3) xt xn xo (.slice asv xa.length csv)) (results_cell_row (p:=4) (ty:=38) rfl _ _ (W.heap.size+1) 38 _ (0,0) _ rfl hX9 underlying38 rfl d4b) rfl ?_;exact d2o.yes (HF2.o.but hB9 hX9).grown (HS2.o.but hB9 aE aE) HE2.o ⟨_,rfl,(HA.o.but hB9 (fun i (hi:_<=i)=>by omega)).of fun b _ (hb:_<=b)=>by omega⟩
  ·have HE2:=aB (HE.o.trans hr);clear hr;go_wp2;exact⟨rfl,d2o.no HF2.o.grown HS2.o hc HE2.o⟩
theorem zinsideStr_any{W:World}{bs g cap k:Nat}{ts:List Tok}(h:iV W bs g cap ts k)(hT:lC ts):eg 192 #[RV bs,.func (.func 137) #[RV bs] #[]] W (d2o (RowsGV gStr W.heap.size) bs g cap ts W (parenR ts (nameRW ts) k)):=by
 have HB0:=aB ((Bl.refl W).alloc (.cells #[.pointer (some ⟨bs,0,none⟩)] 122));have HF0:=aB (FrY.start W bs);have HTK:=aB hT;obtain⟨R,HR⟩:∃R,Hid (R=parenR ts (nameRW ts) k):=⟨_,rfl⟩
 rw[<-HR.o];clear hT;have H:=aB h;have hbl:=h.lt';have hgl:=h.gl;clear h;go_enter func192,ntmps192;go_wp2_with fail;refine(zneed_any (H.o.bl HB0.o) [[40]] _ 1 _ _ rfl rfl aa aa).mono ?_;intro e w1 hp;obtain⟨hg1,k1,hs1,hcase⟩:=hp;have HF1:=aB (HF0.o.next hbl hg1);have HS1:=aB hs1;clear hg1 hs1;rcases hcase with⟨_,v,hr1,rfl,rfl⟩|⟨c,hc,hr1,rfl⟩
 rotate_left
 ·have HE:=aB (HR.o.trans (d2u.bind_bad hr1));clear hr1;go_wp2;exact⟨rfl,d2o.no HF1.o.grown HS1.o hc HE.o⟩
 have HE1:=aB (HR.o.trans (d2u.bind_yes hr1));have a0:=cK HF1.o.r;have hz1:=HF1.o.size;clear hr1;go_wp2_with fail;refine(zlistStr_any HS1.o HTK.o).mono ?_;intro e w2 hp;obtain⟨hg2,k2,hs2,hcase⟩:=hp;have HF2:=aB (HF1.o.next hbl hg2);have HS2:=aB hs2;clear hg2 hs2 a0;rcases hcase with⟨l,v,hr2,hl,rfl⟩|⟨c,hc,hr2,rfl⟩
 rotate_left
 ·have HE:=aB (HE1.o.trans (d2u.bind_bad hr2));clear hr2;go_wp2;exact⟨rfl,d2o.no HF2.o.grown HS2.o hc HE.o⟩
 have HE2:=aB (HE1.o.trans (d2u.bind_yes hr2));obtain⟨a,c,rfl,-⟩:=id hl;have HL:=aB (hl.low (q:=fun b=>W.heap.size+1<=b) fun b _ (hb:_<=b)=>by omega);have a0:=cK HF2.o.r;clear hr2 hl;go_wp2_with fail;refine(zneed_any HS2.o [[41]] _ 1 _ _ rfl rfl aa aa).mono ?_;intro e w3 hp;obtain⟨hg3,k3,hs3,hcase⟩:=hp;have HF3:=aB (HF2.o.next hbl hg3);have HS3:=aB hs3;have HL3:=aB (HL.o.keep hg3.4 (fun _ _ h=>h) fun b (hb:_<=b) hl=>hg3.block b hl (fun e=>by injection e with e;omega));clear hg3 hs3 a0;rcases hcase with⟨_,v,hr3,rfl,rfl⟩|⟨c,hc,hr3,rfl⟩
 ·have HE3:=aB (HE2.o.trans (d2u.bind_yes hr3));clear hr3;go_wp2;go_ret;exact d2o.yes HF3.o.grown HS3.o HE3.o (HL3.o.low fun b _ (hb:_<=b)=>by omega)
 ·have HE3:=aB (HE2.o.trans (d2u.bind_bad hr3));clear hr3;go_wp2;exact⟨rfl,d2o.no HF3.o.grown HS3.o hc HE3.o⟩
theorem zinsideEx_any{W:World}{bs g cap k:Nat}{ts:List Tok}(h:iV W bs g cap ts k)(hT:lC ts):eg 244 #[RV bs,.func (.func 196) #[RV bs] #[]] W (d2o (RowsGV gEx W.heap.size) bs g cap ts W (parenR ts (d3j ts) k)):=by
 have HB0:=aB ((Bl.refl W).alloc (.cells #[.pointer (some ⟨bs,0,none⟩)] 122));have HF0:=aB (FrY.start W bs);have HTK:=aB hT;obtain⟨R,HR⟩:∃R,Hid (R=parenR ts (d3j ts) k):=⟨_,rfl⟩
 rw[<-HR.o];clear hT;have H:=aB h;have hbl:=h.lt';have hgl:=h.gl;clear h;go_enter func244,ntmps244;go_wp2_with fail;refine(zneed_any (H.o.bl HB0.o) [[40]] _ 1 _ _ rfl rfl aa aa).mono ?_;intro e w1 hp;obtain⟨hg1,k1,hs1,hcase⟩:=hp;have HF1:=aB (HF0.o.next hbl hg1);have HS1:=aB hs1;clear hg1 hs1;rcases hcase with⟨_,v,hr1,rfl,rfl⟩|⟨c,hc,hr1,rfl⟩
 rotate_left
 ·have HE:=aB (HR.o.trans (d2u.bind_bad hr1));clear hr1;go_wp2;exact⟨rfl,d2o.no HF1.o.grown HS1.o hc HE.o⟩
 have HE1:=aB (HR.o.trans (d2u.bind_yes hr1));have a0:=cK HF1.o.r;have hz1:=HF1.o.size;clear hr1;go_wp2_with fail;refine(zlistEx_any HS1.o HTK.o).mono ?_;intro e w2 hp;obtain⟨hg2,k2,hs2,hcase⟩:=hp;have HF2:=aB (HF1.o.next hbl hg2);have HS2:=aB hs2;clear hg2 hs2 a0;rcases hcase with⟨l,v,hr2,hl,rfl⟩|⟨c,hc,hr2,rfl⟩
 rotate_left
 ·have HE:=aB (HE1.o.trans (d2u.bind_bad hr2));clear hr2;go_wp2;exact⟨rfl,d2o.no HF2.o.grown HS2.o hc HE.o⟩
 have HE2:=aB (HE1.o.trans (d2u.bind_yes hr2));obtain⟨a,c,rfl,-⟩:=id hl;have HL:=aB (hl.low (q:=fun b=>W.heap.size+1<=b) fun b _ (hb:_<=b)=>by omega);have a0:=cK HF2.o.r;clear hr2 hl;go_wp2_with fail;refine(zneed_any HS2.o [[41]] _ 1 _ _ rfl rfl aa aa).mono ?_;intro e w3 hp;obtain⟨hg3,k3,hs3,hcase⟩:=hp;have HF3:=aB (HF2.o.next hbl hg3);have HS3:=aB hs3;have HL3:=aB (HL.o.keep hg3.4 (fun _ _ h=>h) fun b (hb:_<=b) hl=>hg3.block b hl (fun e=>by injection e with e;omega));clear hg3 hs3 a0;rcases hcase with⟨_,v,hr3,rfl,rfl⟩|⟨c,hc,hr3,rfl⟩
 ·have HE3:=aB (HE2.o.trans (d2u.bind_yes hr3));clear hr3;go_wp2;go_ret;exact d2o.yes HF3.o.grown HS3.o HE3.o (HL3.o.low fun b _ (hb:_<=b)=>by omega)
 ·have HE3:=aB (HE2.o.trans (d2u.bind_bad hr3));clear hr3;go_wp2;exact⟨rfl,d2o.no HF3.o.grown HS3.o hc HE3.o⟩
end
end Go.Proofs.YtohlomdapelgeaaGreatDoor
