/- Texts X4 OS OX MC V8. -/
import Derived.Test.YtkimpcmkminffaaGreatDoorNC
import Derived.Test.YtkimpcmkminffaaGreatDoorNB
import Derived.OpenShut
import Derived.Deep.Strs
import Derived.Deep.Slices
import Derived.Deep.Fields
import Derived.ChangeSame
import Derived.WideShapes
import Derived.Deep.CutBlock
namespace Go.Proofs.YtkimpcmkminffaaGreatDoor
open _root_.Go.Proofs.Tryz
open Go.RowKit
open Go.ChangeShapes Go.WideShapes Go.ChangeAt Go.RowKit Go.Deep
open Go.RowKit Go.Shelf
open _root_.Go.Addr renaming add->dY
open _root_.Array renaming replicate_succ->eX,replicate_zero->eU
open _root_.Go.RowKit.Below renaming refl->bS
open _root_.Go.Lib renaming hid->aB
open _root_.List renaming append_toArray->fD,cons_append->bE,drop_succ_cons->gB,drop_zero->oC,getElem?_eq_getElem->aP,getElem?_eq_some_iff->aO,getElem?_map->iJ,length_cons->aX,length_nil->bL,nil_append->cB,push_toArray->gH,range->iU,size_toArray->gG
open _root_.Nat renaming le_refl->aH
open _root_.Go.Oper renaming semAt_some->nC
open _root_.Option renaming bind_eq_some_iff->dG,map_eq_some_iff->aT
open _root_.Go.World renaming block_lt_of_cell?->bB,size_alloc->aR
set_option maxRecDepth 100000
set_option maxHeartbeats 2000000
section
theorem At8.bl{W W':World}{b o:Nat}{x:Ex}{sv:Value}(hb:Bl W W')(h:At8 W b o x sv):At8 W' b o x sv:=
 h.keep (hb.block b (by have:=bB _ _ h.1;simpa using this))
end
section
theorem cell_spot{W:World}{a:Addr}{v:Value}(h:W.cell? a=some v):a=⟨a.block,a.off,none⟩:=by
 obtain⟨b,o,s⟩:=a;cases s with
 |none=>rfl
 |some s=>
  simp only[World.cell?] at h;split at h<;>simp at h
theorem c0s(b o j:Nat):(⟨b,o,none⟩:Addr).add j=⟨b,o+j,none⟩:=by
 unfold dY;split
 ·subst_vars;rfl
 ·rfl
section
variable {H:Type} {enc:TypeId×Value->H} {W:World} {base:Nat} {spare:Nat->Bool} {held:Bool}
end
section
variable {H:Type} {enc:TypeId×Value->H} {P:Program} {w:World} {base:Nat} {spare:Nat->Bool} {held:Bool}
end
end
section
theorem c3x:prog.cellsOf 24=1:=by kernel_rfl
theorem c2e:prog.cellsOf 2=1:=by kernel_rfl
theorem b0t:prog.cellsOf 9=1:=by kernel_rfl
theorem b7k:prog.cellsOf 44=1:=by kernel_rfl
theorem c6v:prog.cellsOf 27=1:=by kernel_rfl
theorem b3q:prog.cellsOf 26=3:=by kernel_rfl
theorem b3t:prog.cellsOf 45=1:=by kernel_rfl
theorem b7l:prog.cellsOf 47=8:=by kernel_rfl
inductive c4f:Ex->Prop where
 |mk (k:Int) (v:Int×Int×List UInt8) (t n:List UInt8) (o:Int) (args:List Ex) (h:I64 v.1) (ha:∀y,y∈args->c4f y):c4f (.mk k v t n o args)
instance:Inhabited Ex:=⟨zeroE⟩
section
variable {H:Type} {enc:TypeId×Value->H} {W:World} {base:Nat} {spare:Nat->Bool} {held:Bool}
theorem c8r{n:Int}(h:(Lit.int .i64 n).wf=true):I64 n:=by
 exact bounds_i64 h
theorem a4u{n:Nat}{cs:List Value}{y:DataW H×List MemPlace}(h:DataW.trod enc prog W base spare held n 9 cs=some y):∃l:List UInt8,cs=[S l]/\l.length<=maxLen:=by
 obtain⟨s,e,_,hs⟩:=DataW.trod_string underlying9 h;obtain⟨⟨s⟩⟩:=s;exact⟨s,e,by simpa[ByteArray.size] using hs⟩
theorem b8r{n:Nat}{cs:List Value}{y:DataW H×List MemPlace}(h:DataW.trod enc prog W base spare held n 26 cs=some y):∃v:Int×Int×List UInt8,cs=[.int .i64 v.1,.int .i64 v.2.1,S v.2.2]/\I64 v.1/\I64 v.2.1/\v.2.2.length<=maxLen:=by
 obtain⟨ys,m,_,_,hlen,hyl,hf⟩:=DataW.trod_struct underlying26 h;rw[b3q] at hlen
 match cs,hlen with
 |[a,b,c],_=>
  have h0:DataW.trod enc prog W base spare held m 24 (([a,b,c].drop 0).take (prog.cellsOf 24))=ys[0]?:=hf 0 _ rfl;have h1:DataW.trod enc prog W base spare held m 2 (([a,b,c].drop 1).take (prog.cellsOf 2))=ys[1]?:=hf 1 _ rfl;have h2:DataW.trod enc prog W base spare held m 9 (([a,b,c].drop 2).take (prog.cellsOf 9))=ys[2]?:=hf 2 _ rfl;have hs:ys.length=3:=hyl;simp only[c3x,c2e,b0t,oC,gB,List.take_succ_cons,List.take_zero] at h0 h1 h2;rw[aP aE] at h0 h1 h2;obtain⟨i0,e0,_,w0⟩:=DataW.trod_int underlying24 h0;obtain⟨i1,e1,_,w1⟩:=DataW.trod_int underlying2 h1;obtain⟨l,e2,hl⟩:=a4u h2;simp only[List.cons.injEq,and_true] at e0 e1 e2;subst e0 e1 e2;exact⟨(i0,i1,l),rfl,c8r w0,c8r w1,hl⟩
theorem c4u:∀(n:Nat) (cs:List Value) (y:DataW H×List MemPlace),DataW.trod enc prog W base spare held n 47 cs=some y->∃x sv,cs=qD x sv/\gU W sv x.args/\Fits x/\c4f x:=by
 intro n
 induction n using Nat.strongRecOn with
 |ind n ih=>
  intro cs y h;obtain⟨ys,m,rfl,_,hlen,hyl,hf⟩:=DataW.trod_struct underlying47 h;rw[b7l] at hlen
  match cs,hlen with
  |[a0,a1,a2,a3,a4,a5,a6,a7],_=>
   have h0:DataW.trod enc prog W base spare held m 44 (([a0,a1,a2,a3,a4,a5,a6,a7].drop 0).take (prog.cellsOf 44))=ys[0]?:=hf 0 _ rfl;have h1:DataW.trod enc prog W base spare held m 26 (([a0,a1,a2,a3,a4,a5,a6,a7].drop 1).take (prog.cellsOf 26))=ys[1]?:=hf 1 _ rfl;have h2:DataW.trod enc prog W base spare held m 9 (([a0,a1,a2,a3,a4,a5,a6,a7].drop 4).take (prog.cellsOf 9))=ys[2]?:=hf 2 _ rfl;have h3:DataW.trod enc prog W base spare held m 9 (([a0,a1,a2,a3,a4,a5,a6,a7].drop 5).take (prog.cellsOf 9))=ys[3]?:=hf 3 _ rfl;have h4:DataW.trod enc prog W base spare held m 27 (([a0,a1,a2,a3,a4,a5,a6,a7].drop 6).take (prog.cellsOf 27))=ys[4]?:=hf 4 _ rfl;have h5:DataW.trod enc prog W base spare held m 45 (([a0,a1,a2,a3,a4,a5,a6,a7].drop 7).take (prog.cellsOf 45))=ys[5]?:=hf 5 _ rfl;have hs:ys.length=6:=hyl;simp only[b7k,b3q,b0t,c6v,b3t,oC,gB,List.take_succ_cons,List.take_zero] at h0 h1 h2 h3 h4 h5;rw[aP aE] at h0 h1 h2 h3 h4 h5;obtain⟨k,e0,_,_⟩:=DataW.trod_int underlying44 h0;obtain⟨v,e1,hi0,hi,_⟩:=b8r h1;obtain⟨t,e2,_⟩:=a4u h2;obtain⟨nm,e3,_⟩:=a4u h3;obtain⟨o,e4,_,_⟩:=DataW.trod_int underlying27 h4;simp only[List.cons.injEq,and_true] at e0 e1 e2 e3 e4;obtain⟨rfl,rfl,rfl⟩:=e1;subst e0 e2 e3 e4
   suffices hl:∃l,gU W a7 l/\(∀y∈l,Fits y)/\∀y∈l,c4f y by
    obtain⟨l,hl,hfl,hkl⟩:=hl;exact⟨.mk k v t nm o l,a7,rfl,hl,.mk k v t nm o l hi hfl,.mk k v t nm o l hi0 hkl⟩
   clear hf h0 h1 h2 h3 h4;rcases DataW.trod_slice underlying45 h5 with⟨e,_⟩|⟨a,len,cap,elems,rest,m',rfl,e,_,hb,hlc,_,hel,hat,_,_⟩
   ·simp only[List.cons.injEq,and_true] at e;subst e;exact⟨[],gU.nil W none 0,(fun y hy=>by cases hy),(fun y hy=>by cases hy)⟩
   ·simp only[List.cons.injEq,and_true] at e;subst e;obtain⟨F,hF⟩:=choose_lt (α:=Ex×Value) (n:=len) (p:=fun i x=>(∀j,j<8->W.cell? ((a.add (i * 8)).add j)=(qD x.1 x.2)[j]?)/\gU W x.2 x.1.args/\Fits x.1/\c4f x.1) (fun i hi=>by
     have hi':=hat i hi;rw[aP aE,b7l] at hi';obtain⟨cs',hc,ht⟩:=dG.1 hi';obtain⟨x,sv,rfl,hr,hx⟩:=ih m' aE cs' _ ht;obtain⟨_,_,hg⟩:=World.cells?_some hc;exact⟨(x,sv),hg,hr,hx⟩)
    have hm:len=((iU len).map fun i=>(F i).1).length:=aa;refine⟨(iU len).map fun i=>(F i).1,?_,fun y hy=>?_,fun y hy=>?_⟩
    ·conv=>arg 2;rw[hm]
     refine .mk (some a) cap _ (fun i=>(F i).2) (fun j x hx=>?_) (fun j x hx=>?_)
     ·rw[iJ] at hx;obtain⟨i,hi,rfl⟩:=aT.1 hx;have hj:j<len:=(by have:=(aO.1 hi).1;simpa using this);have hij:i=j:=by
       rw[List.getElem?_range hj] at hi;exact(Option.some.inj hi).symm
      subst hij;have h00:=(hF 0 aE).1 0 aE;rw[show(a.add (0 * 8)).add 0=a from rfl] at h00;have ea:=cell_spot (v:= .int .i64 (F 0).1.k) h00;refine⟨a.block,a.off,by rw[<-ea],yI fun q hq=>?_⟩;have hc:=(hF i hj).1 q hq;rw[ea,c0s,c0s] at hc;exact hc
     ·rw[iJ] at hx;obtain⟨i,hi,rfl⟩:=aT.1 hx;have hj:j<len:=(by have:=(aO.1 hi).1;simpa using this);have hij:i=j:=by
       rw[List.getElem?_range hj] at hi;exact(Option.some.inj hi).symm
      subst hij;exact(hF i hj).2.1
    ·obtain⟨i,hi,rfl⟩:=List.mem_map.1 hy;exact(hF i (by simpa using hi)).2.2.1
    ·obtain⟨i,hi,rfl⟩:=List.mem_map.1 hy;exact(hF i (by simpa using hi)).2.2.2
theorem b8e{b0:Nat}{v:Value}{d:DataW H}{ps:List MemPlace}(hv:Value.okWide prog W .any b0 47 v)(h:DataW.Trod enc prog W base spare held 47 v d ps):∃x,eO W x v/\Fits x/\c4f x:=by
 obtain⟨cs,rfl,hsz⟩:=okWide_struct underlying47 hv;obtain⟨fuel,hf⟩:=h;obtain⟨x,sv,e,hr,hx⟩:=c4u fuel _ _ hf;refine⟨x,⟨sv,?_,hr⟩,hx⟩;have e':cs.toList=qD x sv:=e;rw[show cs=(qD x sv).toArray by rw[<-e']];rfl
end
end
section
end
section
theorem b3k(o:Int)(w:World):cL 59 #[.int .i64 o] w fun e w'=>e= .returned (.agg #[S (bI o),.int .i64 (fJ o:Int),.int .i64 (vM o),.int .i64 (fU o)])/\Bl w w':=a4l o w
end
section
end
section
end
section
attribute [local go_sem] nC
set_option maxRecDepth 100000 in
theorem folded_any(t0:Int)(g:FuncId)(f:Int->Int->Int)(a:Option Addr)(len cap:Nat)(zs:List Int)(hreach:zs.length * 8<=140737488351232)(w:World)
  (hg:∀(args:Array Value) (w:World),(callFunc g args).run prog w= .ok (.enter g args) w)
  (hf:∀(x y:Int) (W:World),cL g #[.int .i64 x,.int .i64 y] W fun e w'=>e= .returned (.int .i64 (f x y))/\Bl W w')
  (hI:Ints w.heap.size w (.slice a len cap) zs):
  cL 173 #[.int .i64 t0,.func (.func g) #[] #[],.slice a len cap] w fun e w'=>e= .returned (.int .i64 (zs.foldl f t0))/\Bl w w':=by
 refine(callsIn_wide (n:=5)).1 ?_;have HF:=aB hf;clear hf;refine callsIn_of_wp_marks func173 rfl trivial ?_ rfl;simp only[ntmps173,gG,aX,bL,Nat.reduceAdd,Nat.reduceSub,eX,eU,gH,fD,cB,bE]
 gi_wp2_with fail
 refine⟨trivial,?_⟩;refine(values_in Fence.wide 4 trivial rfl _ _ _ _).mono ?_;rintro e w' ⟨rfl,rfl⟩
 gi_wp2_with fail
 have bSv:=Boxed.new w 195 (.int .i64 t0);have bGv:=Boxed.new (w.alloc (.cells #[.int .i64 t0] 195)) 216 (.func (.func g) #[] #[]);have bNv:=Boxed.new ((w.alloc (.cells #[.int .i64 t0] 195)).alloc (.cells #[.func (.func g) #[] #[]] 216)) 214 (.slice a len cap);simp only[aR] at bGv bNv;have hB0:Bl w (((w.alloc (.cells #[.int .i64 t0] 195)).alloc (.cells #[.func (.func g) #[] #[]] 216)).alloc (.cells #[.slice a len cap] 214)):=(((Bl.refl w).alloc _).alloc _).alloc _;refine wpIn_rangeFunc_ownG rfl aE (gf:=195) (lb:= #[.pointer (some ⟨w.heap.size+1+1,0,none⟩)]) rfl trivial (enters_of func195 ae rfl)
  (values_stops Fence.wide (5-1) trivial rfl aE (w.heap.size+1+1) w.heap.size _ zs hreach _ aa ab bNv.cell (hI.below hB0)) belowK_t (belowK_b ab) (bS _ _) (fun _=>rfl)
  (fun pre W=>(W.cell? ⟨w.heap.size,0,none⟩=some (.int .i64 (pre.foldl f t0))/\W.frozen? ⟨w.heap.size,0,none⟩=false/\W.cell? ⟨w.heap.size+1,0,none⟩=some (.func (.func g) #[] #[]))/\Below w.heap.size w W)
  (fun _ _ _=>False)
  (OwnFrom.and (Own.from (fun s A B row hs hg hr=>⟨cell_kept hs.1 hg hr,(frozen_kept hs.1 hg hr).trans hs.2.1,cell_kept hs.2.2 hg hr⟩) _) (ownFrom_below (aH _) ab))
  (fun _ _ _ _ _ hs _ _=>hs)
  ⟨⟨((bSv.alloc _).alloc _).cell,((bSv.alloc _).alloc _).frozen,(bGv.alloc _).cell⟩,hB0⟩
  (fun x=>{tmps:= #[.int .i64 t0,.func (.func g) #[] #[],.slice a len cap,.pointer (some ⟨w.heap.size,0,none⟩),.pointer (some ⟨w.heap.size+1,0,none⟩),undef,.int .i64 0,.int .i64 x,.slice a len cap,.func (.func 195) #[] #[.pointer (some ⟨w.heap.size+1+1,0,none⟩)],.int .i64 x,undef,undef,undef,undef,undef],defers:=[]}) ?assign ?body ?done ?stop
 case assign=>
  intro l x W K hK
  gi_wp2
  exact hK
 case body=>
  rintro l pre x W ⟨⟨hc,hf,hcg⟩,hB⟩ _
  gi_wp2_with fail
  refine⟨trivial,?_⟩;refine(CallsIn.inRound l (callsIn_wide.2 (HF.o _ _ _))).mono ?_;rintro e W1 ⟨rfl,hb⟩;have hc1:=Bl.cell hb hc;have hf1:=Bl.frozen hb hc hf;have hcg1:=Bl.cell hb hcg
  gi_wp2
  refine⟨((KeepsOthers.of_bl hb).trans (KeepsOthers.setCell _ _ _)).from _,(hb.mono hB.size).setCell (p:=⟨w.heap.size,0,none⟩) (aH _) _,⟨?_,?_,?_⟩,(hB.trans (hb.mono hB.size)).setCell (p:=⟨w.heap.size,0,none⟩) (aH _) _⟩
  ·rw[List.foldl_append];exact World.cell?_setCell_same' _ _ _ (by rw[hc1];rfl)
  ·rw[World.frozen?_setCell];exact hf1
  ·rw[World.cell?_setCell_other]
   ·exact hcg1
   ·simp
 case done=>
  rintro D ys W hD rfl ⟨⟨hc,_,_⟩,hB⟩ hK
  gi_wp2
  refine⟨by simp,.inl ⟨_,_,rfl,run_takeDeferred hK,?_⟩⟩;exact⟨_,results_tmp rfl _ _ _,rfl,hB.trans (belowK_b (w:=w) (aH _) W D _ _ (by simp at hD;omega) hK rfl rfl)⟩
 case stop=>
  rintro D c pre W _ _ h _;exact h.elim
theorem enters_And1(args:Array Value)(w:World):(callFunc 174 args).run prog w= .ok (.enter 174 args) w:=by
 simp[go_sem]
theorem enters_Or1(args:Array Value)(w:World):(callFunc 175 args).run prog w= .ok (.enter 175 args) w:=by
 simp[go_sem]
def andL(zs:List Int):Int:=zs.foldl d2d 1
def orL(zs:List Int):Int:=c9p (zs.foldl (fun a b=>d2d a (c9p b)) 1)
theorem and2_one(n:Int)(h:n=0\/n=1\/n=2):d2d 1 n=n:=by rcases h with rfl|rfl|rfl<;>decide
theorem and2_range(a b:Int):d2d a b=0\/d2d a b=1\/d2d a b=2:=by unfold d2d;split<;>(try split)<;>simp
set_option maxRecDepth 100000 in
theorem And_any(a:Option Addr)(len cap:Nat)(zs:List Int)(hreach:zs.length * 8<=140737488351232)(w:World)(hI:Ints w.heap.size w (.slice a len cap) zs):
  cL 150 #[.slice a len cap] w fun e w'=>e= .returned (.int .i64 (andL zs))/\Bl w w':=by
 go_enter func150,ntmps150;go_wp2_with fail;refine(folded_any 1 174 d2d a len cap zs hreach _ enters_And1 (fun x y W=>(And1_any x y W).mono fun e w' ⟨he,hw⟩=>⟨he,by rw[hw];exact Bl.refl _⟩) hI).mono ?_;rintro e w' ⟨rfl,hb⟩;go_wp2;go_ret;exact⟨rfl,hb⟩
set_option maxRecDepth 100000 in
theorem Or1_any(x y:Int)(w:World):cL 175 #[.int .i64 x,.int .i64 y] w fun e w'=>e= .returned (.int .i64 (d2d (d2d 1 x) (c9p y)))/\Bl w w':=by
 go_enter func175,ntmps175;go_wp2_with fail;refine(Not_any _ _).mono ?_;rintro e w' ⟨rfl,rfl⟩;go_wp2_with fail;refine(And_any _ _ _ [x,c9p y] aa _ (.inr ⟨_,_,_,rfl,by simp,?_⟩)).mono ?_
 ·intro j hj
  match j,hj with
  |0,_=>simp[go_sem]
  |1,_=>simp[go_sem]
 rintro e w' ⟨rfl,hb⟩;go_wp2;go_ret;exact⟨rfl,((Bl.refl _).alloc _).call hb⟩
theorem or_fold(zs:List Int):∀a,(a=0\/a=1\/a=2)->zs.foldl (fun a b=>d2d (d2d 1 a) (c9p b)) a=zs.foldl (fun a b=>d2d a (c9p b)) a:=by
 induction zs with
 |nil=>intro a _;rfl
 |cons z zs ih=>
  intro a ha;simp only[List.foldl_cons];rw[and2_one a ha];exact ih _ (and2_range _ _)
set_option maxRecDepth 100000 in
theorem Or_any(a:Option Addr)(len cap:Nat)(zs:List Int)(hreach:zs.length * 8<=140737488351232)(w:World)(hI:Ints w.heap.size w (.slice a len cap) zs):
  cL 151 #[.slice a len cap] w fun e w'=>e= .returned (.int .i64 (orL zs))/\Bl w w':=by
 go_enter func151,ntmps151;go_wp2_with fail;refine(folded_any 1 175 (fun a b=>d2d (d2d 1 a) (c9p b)) a len cap zs hreach _ enters_Or1 Or1_any hI).mono ?_;rintro e w' ⟨rfl,hb⟩;go_wp2_with fail;refine(Not_any _ _).mono ?_;rintro e w1 ⟨rfl,rfl⟩;go_wp2;go_ret;exact⟨lI (by rw[or_fold zs 1 aa];rfl),hb⟩
end
end Go.Proofs.YtkimpcmkminffaaGreatDoor
