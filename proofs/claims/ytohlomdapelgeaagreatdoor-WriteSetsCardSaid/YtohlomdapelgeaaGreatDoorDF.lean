/- Texts SW SP. -/
import Derived.Test.YtohlomdapelgeaaGreatDoorDA
import Derived.Test.YtohlomdapelgeaaGreatDoorCG
import Derived.Test.YtohlomdapelgeaaGreatDoorDC
import Derived.Test.YtohlomdapelgeaaGreatDoorDD
import Derived.Test.YtohlomdapelgeaaGreatDoorDE
import Derived.Test.YtohlomdapelgeaaGreatDoorDB
import Derived.Test.YtohlomdapelgeaaGreatDoorCM
namespace Go.Proofs.YtohlomdapelgeaaGreatDoor
open _root_.Go.Proofs.Tryz
open Go.RowKit
open _root_.And renaming intro->bT
open _root_.Array renaming getElem?_eq_some_iff->aC
open _root_.Go.RowKit.Below renaming grown->iL
open _root_.Bool renaming or_eq_true->jO
open _root_.Go.Lib renaming cell_of_heap->aG,hid->aB
open _root_.List renaming getElem?_drop->iE,getElem?_eq_some_iff->aO,getElem?_take->rA,mem_cons->dD,mem_nil_iff->fV
open _root_.Nat renaming le_refl->aH
open _root_.Go.Region renaming wanted->jG
open _root_.Go.World renaming size_alloc->aR
set_option maxRecDepth 100000
set_option maxHeartbeats 8000000
section
section
variable {P:Program} {ops:Array Oper} {rest:List Oper} {o:Oper} {a:Act} {w:World} {Q:Exit->Act->World->Prop}
theorem wpList_boxO(hg:o.guard=none)(t:TypeId)(x:Operand)(ho:o.op= .box t x)(cs:List Value)(hx:(a.eval x).cells=cs.toArray)
  (h:∀w',Bl w w'->w'.heap[w.heap.size]?=some (.cells cs.toArray t (0,0))->wpList P ops Q rest (a.put o.dst (.pointer (some ⟨w.heap.size,0,none⟩))) w'):wpList P ops Q (o::rest) a w:=by
 refine wpList_plain hg fun K hK=>?_;unfold Oper.wp execOp;simp only[ho,Sem.run_bind,Instr.box,newVar,newRow,run_newObj_alloc,Sem.run_pure,Result.andThen_ok,hx];exact hK _ _ (h _ ((Bl.refl w).alloc _) (aN w _))
theorem wpList_load_midG(hw:jG o (yielded ops a.tmps)=true)(ty:TypeId)(x:Operand)(ho:o.op= .load ty x)(b i:Nat)(hx:a.eval x= .pointer (some ⟨b,i,none⟩))(cs:List Value)(d:TypeDesc)(hc:w.rangeAt b i cs)
  (hu:P.underlying ty=some d) (hd:d.isRow=true) (hi:(P.info? ty).map (·.size)=some cs.length) (h:wpList P ops Q rest (a.put o.dst (.agg cs.toArray)) w):wpList P ops Q (o::rest) a w:=
 wpList_step fun _ hK=>by rw[if_pos hw];exact wp_load_mid ty x ho b i hx cs d hc hu hd hi (hK _ _ h)
end
theorem run_load_midO{P:Program}{o:Oper}{a:Act}{w:World}{ty:TypeId}{x:Operand}{b i:Nat}{cs:List Value}{d:TypeDesc}(ho:o.op= .load ty x)(hx:a.eval x= .pointer (some ⟨b,i,none⟩))(hc:w.rangeAt b i cs)
  (hu:P.underlying ty=some d) (hd:d.isRow=true) (hi:(P.info? ty).map (·.size)=some cs.length):(execOp a.eval o).run P w= .ok (.value (.agg cs.toArray)) w:=by
 unfold execOp;simp only[ho,hx,Instr.loadAt,Instr.sureAddr,Sem.run_bind,Sem.run_pure,Result.andThen_ok,run_loadVar_mid w b i ty cs d hc hu hd hi]
theorem range_of{w:World}{b i:Nat}{cs xs:List Value}{t:TypeId}(h:w.heap[b]?=some (.cells cs.toArray t (0,0)))(hx:(cs.drop i).take xs.length=xs):w.rangeAt b i xs:=fun j v hv=>by
 have hj:=(aO.1 hv).1;rw[aG h];rw[<-hx,rA,if_pos hj,iE] at hv;simpa using hv
theorem cell_of{w:World}{b i:Nat}{cs:List Value}{t:TypeId}{v:Value}(h:w.heap[b]?=some (.cells cs.toArray t (0,0)))(hv:cs[i]?=some v):w.cell? ⟨b,i,none⟩=some v:=by
 rw[aG h];simpa using hv
theorem znameB_any(s:List UInt8)(hs:s.length<=9223372036854775807)(W:World)(hG:nD W):eg 104 #[S s] W fun e w'=>e= .returned (.bool (mO s))/\Bl W w':=by
 have HE:Hid (∀w,Bl W w->eg 155 #[EV 2 (0,0,[]) [] s 0 (.slice none 0 0)] w fun e w'=>e= .returned (.int .i64 (if mO s=true then 0 else 2))/\Bl w w'):=fun w hb=>by
  have h:=yO 1 (.mk 2 (0,0,[]) [] s 0 []) (by simp[fC,fF]) ae (.mk _ _ _ _ _ _ ae hs (fun y h=>by cases h)) w _ ⟨_,rfl,gU.nil _ none 0⟩ (hG.bl hb);unfold ckN at h;rw[e2n] at h;exact h
 generalize mO s=r at *;clear hG hs;go_enter func104,ntmps104;go_wp2_with fail;refine(HE.o _ ?_).mono ?_
 ·first |exact Bl.refl _|exact(Bl.refl _).alloc _
 rintro e w1 ⟨rfl,hb⟩;cases r
 all_goals
  go_wp2;go_ret;exact⟨rfl,by first |exact hb|exact((Bl.refl _).alloc _).call hb⟩
theorem znone_any{x:Ex}(hp:fC x<=1000000)(W:World)(v:Value)(hv:eO W x v):eg 100 #[v] W fun e w'=>e= .returned (.bool (d3i x))/\Bl W w':=by
 have HE:Hid (∀w,Bl W w->eg 39 #[v,zEV] w fun e w'=>e= .returned (.bool (d3i x))/\Bl w w'):=fun w hb=>b7d _ x zeroE (aH _) hp w v _ (hv.bl hb) (e1c w);obtain⟨sv,rfl,hR⟩:=hv;obtain⟨a,cap,rfl,-⟩:=hR.shape;generalize d3i x=r at *;clear hR hp;obtain⟨k,⟨v1,v2,v3⟩,t,n,o,args⟩:=x;simp only[Ex.k,Ex.v,Ex.t,Ex.n,Ex.o,Ex.args] at *;go_enter func100,ntmps100;go_wp2_with fail;refine(HE.o _ ?_).mono ?_
 ·first |exact Bl.refl _|exact(Bl.refl _).alloc _|exact((Bl.refl _).alloc _).alloc _
 rintro e w1 ⟨rfl,hb⟩;go_wp2;go_ret;exact⟨rfl,by first |exact hb|exact((Bl.refl _).alloc _).call hb|exact(((Bl.refl _).alloc _).alloc _).call hb⟩
theorem zright_any{x:Ex}(hp:e0m x)(W:World)(v:Value)(hv:eO W x v)(hG:nD W):eg 108 #[v] W fun e w'=>e= .returned (.bool (eH x))/\Bl W w':=by
 have HE:Hid (∀w,Bl W w->eg 155 #[v] w fun e w'=>e= .returned (.int .i64 (if eH x=true then 0 else 2))/\Bl w w'):=fun w hb=>yO _ x (aH _) hp.parts hp.lens w v (hv.bl hb) (hG.bl hb);obtain⟨sv,rfl,hR⟩:=hv;obtain⟨a,cap,rfl,-⟩:=hR.shape;generalize eH x=r at *;clear hR hp hG;obtain⟨k,⟨v1,v2,v3⟩,t,n,o,args⟩:=x;simp only[Ex.k,Ex.v,Ex.t,Ex.n,Ex.o,Ex.args] at *;go_enter func108,ntmps108;go_wp2_with fail;refine(HE.o _ ?_).mono ?_
 ·first |exact Bl.refl _|exact(Bl.refl _).alloc _
 rintro e w1 ⟨rfl,hb⟩;cases r
 all_goals
  go_wp2;go_ret;exact⟨rfl,by first |exact hb|exact((Bl.refl _).alloc _).call hb⟩
theorem ztext_any{x:Ex}(hp:e0m x)(hC:eH x=true)(W:World)(v:Value)(hv:eO W x v)(hG:nD W):eg 71 #[v] W fun e w'=>e= .returned (S (eY x))/\Bl W w':=by
 have HE:Hid (∀w,Bl W w->eg 114 #[v] w fun e w'=>e= .returned (.tuple #[S (eY x),.int .i64 0])/\Bl w w'):=fun w hb=>a6k hp.parts hC hp.fits hp.lens (hp.text hC) w v (hv.bl hb) (hG.bl hb);obtain⟨sv,rfl,hR⟩:=hv;obtain⟨a,cap,rfl,-⟩:=hR.shape;generalize eY x=r at *;clear hR hp hG hC;obtain⟨k,⟨v1,v2,v3⟩,t,n,o,args⟩:=x;simp only[Ex.k,Ex.v,Ex.t,Ex.n,Ex.o,Ex.args] at *;go_enter func71,ntmps71;go_wp2_with fail;refine(HE.o _ ?_).mono ?_
 ·first |exact Bl.refl _|exact(Bl.refl _).alloc _
 rintro e w1 ⟨rfl,hb⟩;go_wp2;go_ret;exact⟨rfl,by first |exact hb|exact((Bl.refl _).alloc _).call hb⟩
theorem e0m.zero:e0m zeroE:=⟨by decide,.mk _ _ _ _ _ _ ae ae (fun y h=>by cases h),.mk _ _ _ _ _ _ ⟨by decide,by decide⟩ (fun y h=>by cases h),fun h=>absurd h ae⟩
theorem zmay_any{x:Ex}(hp:e0m x)(W:World)(v:Value)(hv:eO W x v)(hG:nD W):eg 102 #[v] W fun e w'=>e= .returned (.bool (mayB x))/\Bl W w':=by
 have H1:Hid (∀w,Bl W w->eg 100 #[v] w fun e w'=>e= .returned (.bool (d3i x))/\Bl w w'):=fun w hb=>znone_any hp.parts w v (hv.bl hb);have H2:Hid (∀w,Bl W w->eg 108 #[v] w fun e w'=>e= .returned (.bool (eH x))/\Bl w w'):=fun w hb=>zright_any hp w v (hv.bl hb) (hG.bl hb);show eg 102 #[v] W fun e w'=>e= .returned (.bool (d3i x||eH x))/\Bl W w';obtain⟨sv,rfl,-⟩:=hv;generalize d3i x=r1 at *;generalize eH x=r2 at *;clear hp hG;go_enter func102,ntmps102;go_wp2_with (refine wpList_boxO rfl 38 (.tmp 0) rfl (qD x sv) rfl ?_)
 intro w0 hb0 hX0;have HB0:=aB hb0;have HX0:=aB hX0;clear hb0 hX0;go_wp2_with (refine wpList_load_midG ar 38 (.tmp 1) rfl W.heap.size 0 rfl (qD x sv) _ (range_of HX0.o rfl) underlying38 rfl d4b ?_)
 refine(H1.o _ HB0.o).mono ?_;rintro e w1 ⟨rfl,hb1⟩;have HB1:=aB (HB0.o.call hb1);have HX1:=aB ((hb1.block _ (lt_of_heap HX0.o)).trans HX0.o);clear hb1 HX0 HB0;cases r1
 ·skip
  go_wp2_with (refine wpList_load_midG ar 38 (.tmp 1) rfl W.heap.size 0 rfl (qD x sv) _ (range_of HX1.o rfl) underlying38 rfl d4b ?_)
  refine(H2.o _ HB1.o).mono ?_;rintro e w2 ⟨rfl,hb2⟩;go_wp2;go_ret;exact⟨rfl,HB1.o.call hb2⟩
 ·go_wp2;go_ret;exact⟨rfl,HB1.o⟩
theorem zsrc_any{s:So}(hs:e7e s)(W:World)(hG:nD W):eg 55 #[.agg #[S s.t,S s.al]] W fun e w'=>e= .returned (.bool (d4c s))/\Bl W w':=by
 obtain⟨t,al⟩:=s;have HG:=aB hG;have H1:Hid (∀w,Bl W w->eg 104 #[S t] w fun e w'=>e= .returned (.bool (mO t))/\Bl w w'):=fun w hb=>znameB_any t hs.t w (HG.o.bl hb);have H2:Hid (∀w,Bl W w->eg 104 #[S al] w fun e w'=>e= .returned (.bool (mO al))/\Bl w w'):=fun w hb=>znameB_any al hs.al w (HG.o.bl hb);obtain⟨R,HR⟩:∃R,Hid (R=d4c ⟨t,al⟩):=⟨_,rfl⟩
 rw[<-HR.o]
 replace HR:=aB (HR.o.trans (show d4c ⟨t,al⟩=(mO t&&d3c al) from rfl))
 clear hG hs;go_enter func55,ntmps55;go_wp2_with (refine wpList_boxO rfl 26 (.tmp 0) rfl [S t,S al] rfl ?_)
 intro w0 hb0 hX0;have HB0:=aB hb0;have HX0:=aB hX0;have c0:=cell_of (i:=0) hX0 rfl;clear hb0 hX0;go_wp2_with fail;refine(H1.o _ HB0.o).mono ?_;rintro e w1 ⟨rfl,hb1⟩;have HB1:=aB (HB0.o.call hb1);have HX1:=aB ((hb1.block _ (lt_of_heap HX0.o)).trans HX0.o);have c1:=cell_of (i:=1) HX1.o rfl;clear hb1 HX0 HB0 c0;cases hr:mO t
 ·have HN:=aB (show R=false from by rw[HR.o,hr];rfl);clear hr;go_wp2;go_ret;exact⟨by rw[HN.o]<;>rfl,HB1.o⟩
 ·have HN0:=aB (show R=d3c al from by rw[HR.o,hr];rfl);clear hr;by_cases h0:al=[]
  ·subst h0;have HN:=aB (show R=true from HN0.o);go_wp2;go_ret;exact⟨by rw[HN.o]<;>rfl,HB1.o⟩
  ·have hb0:(al==[])=false:=by simpa using h0
   have HN:=aB (show R=mO al from by rw[HN0.o];unfold d3c;rw[hb0,Bool.false_or]);go_wp2_with fail;refine(H2.o _ HB1.o).mono ?_;rintro e w2 ⟨rfl,hb2⟩;go_wp2;go_ret;exact⟨by rw[HN.o]<;>rfl,HB1.o.call hb2⟩
theorem zfrom_any{s:So}(ht:s.t≠[])(hl:(d4g s).length<=100000000)(W:World):eg 62 #[.agg #[S s.t,S s.al]] W fun e w'=>e= .returned (S (d4g s))/\Bl W w':=by
 obtain⟨t,al⟩:=s;dsimp only at ht hl⊢;by_cases h0:al=[]
 ·subst h0;have HT:Hid (d4g ⟨t,[]⟩=t):=(by show _=_;simp[d4g,d4t]);rw[HT.o];clear ht hl;go_enter func62,ntmps62;go_wp2_with (refine wpList_boxO rfl 26 (.tmp 0) rfl [S t,S []] rfl ?_)
  intro w0 hb0 hX0;have HB0:=aB hb0;have c0:=cell_of (i:=0) hX0 rfl;have c1:=cell_of (i:=1) hX0 rfl;clear hb0 hX0;go_wp2;go_ret;exact⟨rfl,HB0.o⟩
 ·have HT:Hid (jR [32] ([t,wAs,al].filter fullT)=d4g ⟨t,al⟩):=by
   show _=_;rw[full_all (fun x hx=>?_)]
   ·simp[d4g,d4t,h0,jR]
   ·simp only[dD,List.not_mem_nil,or_false] at hx;rcases hx with rfl|rfl|rfl
    ·exact ht
    ·decide
    ·exact h0
  have HW:Hid (∀w,eg 24 #[.slice (some ⟨w.heap.size,0,none⟩) 3 3] (w.alloc (.cells #[S t,S wAs,S al] 9)) fun e w'=>e= .returned (S (d4g ⟨t,al⟩))/\Bl w w'):=fun w=>by
   have h:=zwords_new (W:=w) [t,wAs,al] _ 3 _ rfl rfl aa rfl ⟨t,by simp,ht⟩ (by rw[HT.o];exact hl);rw[HT.o] at h;exact h
  have hb:(al==[])=false:=cA;generalize d4g ⟨t,al⟩=u at *;clear ht hl HT;go_enter func62,ntmps62;go_wp2_with (refine wpList_boxO rfl 26 (.tmp 0) rfl [S t,S al] rfl ?_)
  intro w0 hb0 hX0;have HB0:=aB hb0;have c0:=cell_of (i:=0) hX0 rfl;have c1:=cell_of (i:=1) hX0 rfl;clear hb0 hX0;go_wp2_with fail;refine(HW.o _).mono ?_;rintro e w1 ⟨rfl,hb1⟩;go_wp2;go_ret;exact⟨rfl,HB0.o.call hb1⟩
end
section
theorem kindInfoZ:(prog.info? 24).map (·.size)=some 1:=by kernel_rfl
theorem begInfo:(prog.info? 154).map (·.size)=some 2:=by kernel_rfl
theorem wrInfo:(prog.info? 46).map (·.size)=some 53:=by kernel_rfl
def begF:Nat->FuncId
 |0=>131
 |1=>132
 |2=>133
 |_=>134
theorem enters_beg{i:Nat}(hi:i<4)(args:Array Value)(w:World):(callFunc (begF i) args).run prog w= .ok (.enter (begF i) args) w:=
 match i,hi with
 |0,_=>by unfold begF;simp[go_sem]
 |1,_=>by unfold begF;simp[go_sem]
 |2,_=>by unfold begF;simp[go_sem]
 |3,_=>by unfold begF;simp[go_sem]
theorem beg_entry{r:Nat}{e:MapEntry}(h:e∈(begAll r).toList):∃i,i<4/\e.key= .int .i64 (Int.ofNat (i+1))/\e.val=begV (r+1+i) (begWords i).length (begF i)/\e.born=i:=by
 simp only[dD,fV,or_false] at h;rcases h with rfl|rfl|rfl|rfl
 ·exact⟨0,by decide,rfl,rfl,rfl⟩
 ·exact⟨1,by decide,rfl,rfl,rfl⟩
 ·exact⟨2,by decide,rfl,rfl,rfl⟩
 ·exact⟨3,by decide,rfl,rfl,rfl⟩
theorem BegM.at{A:World}{r i:Nat}(h:BegM A r)(hi:i<4):A.heap[r+1+i]?=some (.cells ((begWords i).map fun s=>S s).toArray 9 (0,0)):=
 match i,hi with
 |0,_=>h.w1
 |1,_=>h.w2
 |2,_=>h.w3
 |3,_=>h.w4
theorem BegM.keep{A B:World}{r:Nat}(h:BegM A r)(hk:∀b,r<=b->b<=r+4->B.heap[b]?=A.heap[b]?):BegM B r:=
 ⟨(hk _ aE aE).trans h.m,(hk _ aE aE).trans h.w1,(hk _ aE aE).trans h.w2,(hk _ aE aE).trans h.w3,(hk _ aE aE).trans h.w4⟩
theorem beg_born{r:Nat}:∀x∈(begAll r).toList,x.born<4:=fun x hx=>by
 obtain⟨i,hi,-,-,e⟩:=beg_entry hx;omega
theorem beg_nodup(r:Nat):((begAll r).toList.map (·.born)).Nodup:=by
 show([0,1,2,3]:List Nat).Nodup;decide
structure FrI(W A:World)(bs ri:Nat)(seen:Array Nat):Prop where
 grown:W.grownBy A (some bs)
 r:A.heap[W.heap.size]?=some (.cells #[.pointer (some ⟨bs,0,none⟩)] 122 (0,0))
 x:A.heap[W.heap.size+1]?=some (.cells (cellsW zeroW nilW).toArray 46 (0,0))
 m:BegM A (W.heap.size+2)
 i:A.heap[ri]?=some (.mapIter (some (W.heap.size+2)) 4 seen 4)
 z:W.heap.size+6<ri
theorem FrI.lt{W A:World}{bs ri:Nat}{seen:Array Nat}(h:FrI W A bs ri seen):ri<A.heap.size:=(aC.1 h.i).1
theorem FrI.next{W A B:World}{bs ri:Nat}{seen:Array Nat}(h:FrI W A bs ri seen)(hb:bs<W.heap.size)(hg:A.grownBy B (some bs)):FrI W B bs ri seen:=
 have hl:=h.lt;have hz:=h.z;have hk:∀b,b<A.heap.size->W.heap.size<=b->B.heap[b]?=A.heap[b]?:=fun b h1 h2=>hg.block b h1 (fun e=>by injection e with e;omega)
 ⟨dA h.grown hg,(hk _ aE aE).trans h.r,(hk _ aE aE).trans h.x,h.m.keep fun b h1 h2=>hk b aE aE,(hk _ hl aE).trans h.i,hz⟩
theorem FrI.step{W A w1:World}{bs ri:Nat}{seen:Array Nat}(h:FrI W A bs ri seen)(hw:w1=A\/w1=A.drew)(y:Nat):FrI W (ChangeMaps.setBlock w1 ri (.mapIter (some (W.heap.size+2)) 4 (seen.push y) 4)) bs ri (seen.push y)/\
  But ri w1 (ChangeMaps.setBlock w1 ri (.mapIter (some (W.heap.size+2)) 4 (seen.push y) 4))/\Bl A w1:=by
 have hb1:Bl A w1:=by
  rcases hw with rfl|rfl
  ·exact Bl.refl _
  ·exact(Bl.refl _).drew
 have hB:But ri w1 (ChangeMaps.setBlock w1 ri (.mapIter (some (W.heap.size+2)) 4 (seen.push y) 4)):=But.obj ri w1 _;have hl:=h.lt;have hz:=h.z;have hs:=hb1.size;have hk:∀b,b<A.heap.size->b≠ri->(ChangeMaps.setBlock w1 ri (.mapIter (some (W.heap.size+2)) 4 (seen.push y) 4)).heap[b]?=A.heap[b]?:=fun b h1 h2=>(hB.same b h2).trans (hb1.block b h1);refine⟨⟨But.from (dA h.grown (gI hb1 _)) hB aE,(hk _ aE aE).trans h.r,(hk _ aE aE).trans h.x,h.m.keep fun b h1 h2=>hk b aE aE,?_,hz⟩,hB,hb1⟩;show(w1.heap.setIfInBounds ri _)[ri]?=_;rw[Array.getElem?_setIfInBounds];simp[show ri<w1.heap.size by omega]
structure FrX(W B:World)(bs:Nat)(w:Wr)(s:SlW):Prop where
 grown:W.grownBy B (some bs)
 r:B.heap[W.heap.size]?=some (.cells #[.pointer (some ⟨bs,0,none⟩)] 122 (0,0))
 x:HeapW B (W.heap.size+1) w s
 p:PartsW (fun b=>W.heap.size+1<b) B w s
section
variable {W A B:World} {bs:Nat} {w w':Wr} {s s':SlW}
theorem FrX.size(h:FrX W A bs w s):W.heap.size+1<A.heap.size:=(aC.1 h.x).1
theorem FrX.next(h:FrX W A bs w s)(hb:bs<W.heap.size)(hg:A.grownBy B (some bs)):FrX W B bs w s:=
 have hz:=h.size
 ⟨dA h.grown hg,(hg.block _ aE (fun e=>by injection e with e;omega)).trans h.r,(hg.block _ hz (fun e=>by injection e with e;omega)).trans h.x,h.p.keep hg.4 (fun _ h=>h) fun b (hb:_<b) hl=>hg.block b hl (fun e=>by injection e with e;omega)⟩
theorem FrX.but(h:FrX W A bs w s)(hb:But (W.heap.size+1) A B)(hx:HeapW B (W.heap.size+1) w' s')(hp:PartsW (fun b=>W.heap.size+1<b) A w' s'):FrX W B bs w' s':=
 ⟨But.from h.grown hb aE,(hb.same _ aE).trans h.r,hx,hp.keep (Nat.le_of_eq hb.size.symm) (fun _ h=>h) fun b (hlt:_<b) _=>hb.same b aE⟩
theorem FrX.two(h:FrX W A bs w s)(hb:bs<W.heap.size)(h2:Two bs (W.heap.size+1) A B)(hx:HeapW B (W.heap.size+1) w' s')(hp:PartsW (fun b=>W.heap.size+1<b) B w' s'):FrX W B bs w' s':=
 ⟨h2.grown W h.grown aE,(h2.same _ (by have:=h.size;omega) aE aE).trans h.r,hx,hp⟩
theorem PartsW.one{p:Nat->Prop}(h:PartsW p W w s):(cellsW w s).all (·.oneCell')=true:=by
 have g:∀{α:Type} {F:Shp α} {v:Value} {l:List α},RowsG F p W v l->v.oneCell'=true:=fun h=>(by obtain⟨_,_,rfl,-⟩:=h;rfl);have h1:=g h.cols;have h2:=g h.rows;have h3:=d8u h.query.items;have h4:=d8u h.query.joins;have h5:=d6d h.query.wher;have h6:=d6d h.query.group;have h7:=d6d h.query.having;have h8:=d8u h.query.orders;have h9:=g h.conf;have ha:=g h.sets;have hb:=d6d h.wher;have hc:=d6d h.on;have hd:=g h.whens;have he:=d8u h.ret;simp only[cellsW,List.all_cons,List.all_nil,h1,h2,h3,h4,h5,h6,h7,h8,h9,ha,hb,hc,hd,he];rfl
end
def QRd(ts:List Tok)(k0:Nat):Prop:=∀k1 k2 k into cols,bH ts k0 [wInsert,wInto]=some k1->d3b ts k1= .good k2 into->namesR ts false k2= .good k cols->bH ts k [wValues]=none->QRd0 ts k
theorem zbody_any{A:World}{bs bw g cap k i:Nat}{ts:List Tok}(hi:i<4)(into:So)(h:iV A bs g cap ts k)(hT:lC ts)(hQ:i=0->∀k1 cols,namesR ts false k= .good k1 cols->bH ts k1 [wValues]=none->QRd0 ts k1)(hbw1:bs<bw)(hbw2:g<bw)(hbw3:bw<A.heap.size)(hx:HeapW A bw (begW (Int.ofNat (i+1)) into) nilW):
  eg (begF i) #[RV bs,.pointer (some ⟨bw,0,none⟩)] A (BodyP bs bw g cap ts A (bodyR ts i into k)):=
 match i,hi,hx with
 |0,_,hx=>zinsert_any into h hT (hQ rfl) hbw1 hbw2 hbw3 hx
 |1,_,hx=>zupdate_any 2 into h hT hbw1 hbw2 hbw3 hx
 |2,_,hx=>zdelete_any 3 into h hT hbw1 hbw2 hbw3 hx
 |3,_,hx=>zmerge_any into h hT hbw1 hbw2 hbw3 hx
theorem zwrite_any{W:World}{bs g cap k:Nat}{ts:List Tok}(h:iV W bs g cap ts k)(hT:lC ts)(hQ:QRd ts k):eg 52 #[RV bs] W (d2o (fun A w v=>ReadsW (fun b=>W.heap.size<=b) A w v) bs g cap ts W (readW ts k)):=by
 obtain⟨R,HR⟩:∃R,Hid (R=readW ts k):=⟨_,rfl⟩
 rw[<-HR.o];have HQR:=aB hQ;have HTK:=aB hT;have hbl:=h.lt';have hgl:=h.gl;have HB0:=aB (((Bl.refl W).alloc (.cells #[.pointer (some ⟨bs,0,none⟩)] 122)).alloc (.cells (cellsW zeroW nilW).toArray 46));have HS0:=aB (h.bl HB0.o);have HR0:=aB (aN W (.cells #[.pointer (some ⟨bs,0,none⟩)] 122));clear h hT hQ;go_enter func52,ntmps52;go_wp2_with fail;refine(zbegins_any _).mono ?_;rintro e w1 ⟨rfl,hb1,hm1⟩;rw[aR,aR] at hm1;have hz1:W.heap.size+6<w1.heap.size:=(aC.1 hm1.w4).1;have HS1:=aB (HS0.o.bl hb1);have HF1:=aB (show FrI W (w1.alloc (.mapIter (some (W.heap.size+2)) 4 #[] 4)) bs w1.heap.size #[] from
  ⟨gI ((HB0.o.call hb1).alloc _) _,(aW _ _ aE).trans ((hb1.block _ ak).trans ((aW _ _ aa).trans HR0.o)),(aW _ _ aE).trans ((hb1.block _ aa).trans (aV _ _ aa)),
   hm1.keep fun b h1 h2=>aW _ _ aE,aN _ _,hz1⟩)
 have HS2:=aB (HS1.o.bl ((Bl.refl w1).alloc (.mapIter (some (W.heap.size+2)) 4 #[] 4)));have hrg:=run_range_map (P:=prog) w1 151 _ _ (W.heap.size+2) _ 4 underlying151 hm1.m;clear hb1 hm1 HS1;have HN0:Hid (∀j,j<4->(#[]:Array Nat).contains j=true->bH ts k (begWords j)=none):=aB fun j _ h=>(by simp at h);go_wp2_with fail;clear hrg HB0 HS0 HR0;obtain⟨ri,hri⟩:∃ri,w1.heap.size=ri:=⟨_,rfl⟩
 rw[hri] at HF1;rw[hri];clear hz1;go_loopw [] (fun wr=>∃seen:Array Nat,Hid (FrI W wr bs ri seen)/\Hid (iV wr bs g cap ts k)/\Hid (∀j,j<4->seen.contains j=true->bH ts k (begWords j)=none)) (fun wr=>(leftOf (begAll (W.heap.size+2)) (wr.iterSeen ri)).size)
 case atStart=>exact⟨#[],HF1,HS2,HN0⟩
 case round=>
  clear HF1 HS2 HN0 hri;obtain⟨seen,HF,HS,HN⟩:=hrel;have hzr:=HF.o.z;have hlr:=HF.o.lt;have hseen:wr.iterSeen ri=seen:=(by unfold World.iterSeen;rw[HF.o.i]);rcases run_next_at (P:=prog) wr 151 ri (W.heap.size+2) 4 4 seen (begAll (W.heap.size+2)) 4 HF.o.i HF.o.m.m beg_born (aH _) with⟨h0,hrun⟩|⟨e,he,w2,hw2,hrun⟩
  ·have hnx:∀ty,(Instr.next (.pointer (some ⟨ri,0,none⟩)) false ty).run prog wr=_:=fun _=>hrun;have HE:=aB (show R= .bad 261 from by
    rw[HR.o];refine readW_none ts k fun j hj=>HN.o j hj ?_;have hm:(begAll (W.heap.size+2))[j]'hj∈(begAll (W.heap.size+2)).toList:=aa;have:=all_seen _ seen h0 _ hm
    match j,hj with
    |0,_=>exact this
    |1,_=>exact this
    |2,_=>exact this
    |3,_=>exact this)
   clear hseen hrun h0;go_wp2;exact⟨rfl,d2o.no HF.o.grown HS.o (.inr (.inl rfl)) HE.o⟩
  ·obtain⟨i,hi,hkey,hval,hborn⟩:=beg_entry (mem_left he).1;have HLS:=aB (left_shrinks _ seen e he);have hstep:=HF.o.step hw2 i;rw[hborn] at hrun HLS;have hen:=fun(B:World) (h1:B.heap[ri]?=_) (h2:B.heap[W.heap.size+2]?=_)=>run_entry_at (P:=prog) B ri (W.heap.size+2) 4 seen (begAll (W.heap.size+2)) 4 e (by rw[hborn];exact h1) h2 (mem_left he).1 (beg_nodup _);rw[hkey,hval] at hrun hen;obtain⟨B,hB⟩:∃B,ChangeMaps.setBlock w2 ri (.mapIter (some (W.heap.size+2)) 4 (seen.push i) 4)=B:=⟨_,rfl⟩
   rw[hB] at hstep hrun;have hnx:∀ty,(Instr.next (.pointer (some ⟨ri,0,none⟩)) false ty).run prog wr=_:=fun _=>hrun;have HF2:=aB hstep.1;have HS2:=aB ((HS.o.bl hstep.2.2).but hstep.2.1 aE aE);have hentry:=hen B HF2.o.i HF2.o.m.m;have hse:∀j:Nat,(seen.push i).contains j=(seen.contains j||j==i):=fun j=>contains_push _ _ _;have HN2:Hid (bH ts k (begWords i)=none->∀j,j<4->(seen.push i).contains j=true->bH ts k (begWords j)=none):=aB fun h j hj hc=>by
    rw[hse j] at hc;rcases jO _ _▸hc with h1|h1
    ·exact HN.o j hj h1
    ·obtain rfl:j=i:=beq_iff_eq.1 h1;exact h
   clear hrun hen hstep hB he hkey hval hborn hw2 hse;obtain⟨kd,hkd⟩:∃kd:Int,Hid (Int.ofNat (i+1)=kd):=⟨_,rfl⟩
   obtain⟨nw,hnw⟩:∃nw:Nat,Hid ((begWords i).length=nw):=⟨_,rfl⟩
   rw[hkd.o,hnw.o] at hnx hentry;go_wp2_with (refine bA (g:=B.heap.size) (i:=0) rfl rfl rfl rfl [.slice (some ⟨W.heap.size+2+1+i,0,none⟩) nw nw,.func (.func (begF i)) #[] #[]] (aN B _) rfl rfl begInfo rfl ?_)
   intro C hBC hXC;have hbc:Bl B C:=iL ((Bl.refl B).alloc _) hBC.grown aa (fun j hj=>by injection hj with hj;omega);have HF3:=aB (HF2.o.next hbl (gI hbc _));have HS3:=aB (HS2.o.bl hbc);have HX3:=aB hXC;have hz3:B.heap.size<C.heap.size:=(aC.1 hXC).1;have hz2:=HF2.o.lt;clear hBC hXC hbc hentry hnx;have c0:C.cell? ⟨B.heap.size,0,none⟩=some (.slice (some ⟨W.heap.size+2+1+i,0,none⟩) nw nw):=(aG HX3.o 0).trans rfl;have a0:=cK HF3.o.r;have HSX:Hid (a8x C.heap.size bs C (.slice (some ⟨W.heap.size+2+1+i,0,none⟩) nw nw) (begWords i)):=aB (by rw[<-hnw.o];exact a7l (HF3.o.m.at hi) aE aE);have HLN:Hid ((begWords i).length<=1000000):=aB (match i,hi with |0,_=>by decide|1,_=>by decide|2,_=>by decide|3,_=>by decide);go_wp2_with fail;refine(b4q HS3.o _ (begWords i) HSX.o HLN.o).mono ?_;rintro e w4 ⟨hg4,(⟨k1,ht,rfl,hs4⟩|⟨ht,rfl,hs4⟩)⟩;rotate_left
   ·have HF4:=aB (HF3.o.next hbl hg4);have HS4:=aB hs4;have HN4:=aB (HN2.o ht);have hseen4:w4.iterSeen ri=seen.push i:=(by unfold World.iterSeen;rw[HF4.o.i]);have HM4:=aB (bT hseen hseen4);clear hg4 hs4 ht a0 c0 hseen hseen4;go_wp2;go_roundw
    case rel=>exact⟨_,HF4,HS4,HN4⟩
    case measure=>rw[HM4.o.1,HM4.o.2];exact HLS.o
   have HT:=aB ht;have HE4:=aB (HR.o.trans (readW_eq ts k hi ht));have HF4:=aB (HF3.o.next hbl hg4);have HS4:=aB hs4;have HX4:=aB ((hg4.block _ hz3 (fun e=>by injection e with e;omega)).trans HX3.o);have hz4:=hg4.4;clear hg4 hs4 ht a0 c0 HN2 HLS hseen;have a0:=cK HF4.o.r;go_wp2_with fail;refine(zsource_any HS4.o).mono ?_;intro e w5 hp;obtain⟨hg5,k5,hs5,hcase⟩:=hp;have HFI5:=aB (HF4.o.next hbl hg5);have HF5:=aB (show FrX W w5 bs zeroW nilW from⟨HFI5.o.grown,HFI5.o.r,HFI5.o.x,parts_zeroW _ _⟩);have HS5:=aB hs5;have HX5:=aB ((hg5.block _ aE (fun e=>by injection e with e;omega)).trans HX4.o);have hfew:=HS5.o.few;clear hg5 hs5 a0 HF4 HF3 HF2 HF HX4 HX3 HS4 HS3 HS2 HS HN HSX HFI5;rcases hcase with⟨into,v,hr,rfl,rfl⟩|⟨c,hc,hr,rfl⟩
   rotate_left
   ·have HB:=aB ((HE4).o.trans (d2u.bind_bad hr));clear hr;go_wp2;exact⟨rfl,d2o.no (HF5).o.grown (HS5).o hc HB.o⟩
   have HE5:=aB (HE4.o.trans (d2u.bind_yes hr));have HQ5:Hid (i=0->∀k1 cols,namesR ts false k5= .good k1 cols->bH ts k1 [wValues]=none->QRd0 ts k1):=aB fun e k1 cols=>HQR.o _ _ _ _ _ (by have h0:=HT.o;rw[e] at h0;exact h0) hr;clear hr;go_wp2_with (refine bA (g:=W.heap.size+1) (i:=0) rfl rfl rfl rfl (cellsW (begW kd ⟨[],[]⟩) nilW) HF5.o.x rfl rfl kindInfoZ rfl ?_)
   intro w6 hB6 hX6;have HF6:=aB (HF5.o.but hB6 hX6 (parts_begW _ _ _ _));have HS6:=aB (HS5.o.but hB6 aE aE);have HX6:=aB ((hB6.same _ aE).trans HX5.o);clear hB6 hX6;go_wp2_with (refine bA (g:=W.heap.size+1) (i:=1) rfl rfl rfl rfl (cellsW (begW kd into) nilW) HF6.o.x rfl rfl d7e rfl ?_)
   intro w7 hB7 hX7;have HF7:=aB (HF6.o.but hB7 hX7 (parts_begW _ _ _ _));have HS7:=aB (HS6.o.but hB7 aE aE);have HX7:=aB ((hB7.same _ aE).trans HX6.o);clear hB7 hX7;have a0:=cK HF7.o.r;have hz7:=HF7.o.size;have c1:w7.cell? ⟨B.heap.size,1,none⟩=some (.func (.func (begF i)) #[] #[]):=(aG HX7.o 1).trans rfl;have hen:=enters_beg hi;go_wp2_with fail;refine(zbody_any hi into HS7.o HTK.o HQ5.o aE aE hz7 (by rw[hkd.o];exact HF7.o.x)).mono ?_;rintro e w8 ⟨h2,k8,hs8,(⟨w,s,hr,rfl,hx8,hp8⟩|⟨c,hc,hr,rfl⟩)⟩;rotate_left
   ·have HB:=aB (HE5.o.trans (d2u.bind_bad hr));have HG8:=aB (h2.grown W HF7.o.grown aE);have HS8:=aB hs8;clear hr h2 hs8 a0 c1;go_wp2;exact⟨rfl,d2o.no HG8.o HS8.o hc HB.o⟩
   have HE8:=aB (HE5.o.trans (d2u.bind_yes hr));have HF8:=aB (HF7.o.two hbl h2 hx8 hp8);have HS8:=aB hs8;have hsm:=body_small hr;have hsm1:w.rows.length<=200000:=aE;have hsm2:w.whens.length<=200000:=aE;clear hr h2 hx8 hp8 hs8 a0 c1 hsm HF7 HF6 HF5 HX7 HX6 HX5 HS7 HS6 HS5 HE5 HE4;have a0:=cK HF8.o.r;have hz8:=HF8.o.size;cases ht:bH ts k8 [wReturning] with
   |none=>
    have HT8:=aB ht;have HE9:=aB (show R=endR k8 w from by rw[HE8.o];unfold retR;rw[ht]);clear ht;go_wp2_with fail;refine(kM HS8.o [wReturning] HT8.o _ 1 _ _ rfl rfl aa aa).mono ?_;rintro e w9 ⟨rfl,hg9,hs9⟩;have HF9:=aB (HF8.o.next hbl hg9);have HS9:=aB hs9;clear hg9 hs9 a0;have HV:=aB (show ReadsW (fun _=>True) _ (w) (.agg (cellsW (w) (s)).toArray) from⟨_,rfl,(HF9).o.p.keep (aH _) (fun _ _=>trivial) fun _ _ _=>rfl⟩);have hz20:=(HF9).o.size;go_wp2_with (refine wpList_load_row rfl 46 (.tmp 2) rfl (W.heap.size+1) rfl 46 _ (0,0) _ (HF9).o.x underlying46 rfl wrInfo ?_)
    refine(zmany_any (w) hsm1 hsm2 _ _ HV.o).mono ?_;rintro e w21 ⟨rfl,hb21⟩;have HF21:=aB ((HF9).o.next hbl (gI hb21 _));have HS21:=aB ((HS9).o.bl hb21);clear hb21;cases hm:manyW (w) with
    |true=>
     have HB:=aB ((HE9).o.trans (show endR _ (w)= .bad 270 from by unfold endR;rw[if_pos hm]));clear hm;go_wp2_with fail
     (with_reducible refine(zmust_no _ _).mono ?_)
     rintro e w' ⟨rfl,rfl⟩;go_wp2;exact⟨rfl,d2o.no HF21.o.grown HS21.o (.inr (.inr rfl)) HB.o⟩
    |false=>
     have HB:=aB ((HE9).o.trans (show endR _ (w)= .good _ (w) from by unfold endR;rw[if_neg (by rw[hm];decide)]));clear hm;go_wp2_with fail
     (with_reducible refine(zmust_yes _ _).mono ?_)
     rintro e w' ⟨rfl,rfl⟩;have HP21:=aB HF21.o.p;go_wp2_with (first |(refine wpList_load_row rfl 46 (.tmp 2) rfl (W.heap.size+1) rfl 46 _ (0,0) _ HF21.o.x underlying46 rfl wrInfo ?_)|(refine bA (g:=W.heap.size+1) (i:=0) rfl rfl rfl rfl (cellsW (w) (s)) HF21.o.x rfl rfl wrInfo HP21.o.one ?_))
     intro w22 hB22 hX22;have HF22:=aB (HF21.o.but hB22 hX22 HP21.o);have HS22:=aB (HS21.o.but hB22 aE aE);clear hB22 hX22;go_wp2;refine bodyPost_ret (v:= .agg (cellsW (w) (s)).toArray) (results_cell_row (p:=2) (ty:=46) rfl _ _ (W.heap.size+1) 46 _ (0,0) _ rfl HF22.o.x underlying46 rfl wrInfo) rfl ?_;exact d2o.yes HF22.o.grown HS22.o HB.o ⟨_,rfl,HF22.o.p.keep (aH _) (fun b (hb:_<b)=>by omega) fun _ _ _=>rfl⟩
   |some k9=>
    have HT8:=aB ht;have HE9:=aB (show R=(readItems ts k9).bind fun k4 r=>endR k4 ({w with ret:=r}:Wr) from by rw[HE8.o];unfold retR;rw[ht]);clear ht;go_wp2_with fail;refine(jD HS8.o [wReturning] HT8.o _ 1 _ _ rfl rfl aa aa).mono ?_;rintro e w9 ⟨rfl,hg9,hs9⟩;have HF9:=aB (HF8.o.next hbl hg9);have HS9:=aB hs9;clear hg9 hs9 a0;have a0:=cK HF9.o.r;have hz9:=HF9.o.size;go_wp2_with fail;refine(zitems_any HS9.o HTK.o).mono ?_;intro e w10 hp;obtain⟨hg10,k10,hs10,hcase⟩:=hp;have HF10:=aB (HF9.o.next hbl hg10);have HS10:=aB hs10;clear hg10 hs10 a0;rcases hcase with⟨l,v,hr,hl,rfl⟩|⟨c,hc,hr,rfl⟩
    rotate_left
    ·have HB:=aB ((HE9).o.trans (d2u.bind_bad hr));clear hr;go_wp2;exact⟨rfl,d2o.no (HF10).o.grown (HS10).o hc HB.o⟩
    have HE10:=aB (HE9.o.trans (d2u.bind_yes hr));obtain⟨ia,ic,rfl,-⟩:=hl.shape;have HP10:=aB (show PartsW (fun b=>W.heap.size+1<b) w10 ({w with ret:=l}:Wr) ({s with ret:= .slice ia l.length ic}:SlW) from{HF10.o.p with ret:=hl.of fun b _ (hb:_<=b)=>by omega});clear hr hl;go_wp2_with (refine bA (g:=W.heap.size+1) (i:=52) rfl rfl rfl rfl (cellsW ({w with ret:=l}:Wr) ({s with ret:= .slice ia l.length ic}:SlW)) HF10.o.x rfl rfl e0r rfl ?_)
    intro w11 hB11 hX11;have HF11:=aB (HF10.o.but hB11 hX11 HP10.o);have HS11:=aB (HS10.o.but hB11 aE aE);clear hB11 hX11;have HV:=aB (show ReadsW (fun _=>True) _ (({w with ret:=l}:Wr)) (.agg (cellsW (({w with ret:=l}:Wr)) (({s with ret:= .slice ia l.length ic}:SlW))).toArray) from⟨_,rfl,(HF11).o.p.keep (aH _) (fun _ _=>trivial) fun _ _ _=>rfl⟩);have hz20:=(HF11).o.size;go_wp2_with (refine wpList_load_row rfl 46 (.tmp 2) rfl (W.heap.size+1) rfl 46 _ (0,0) _ (HF11).o.x underlying46 rfl wrInfo ?_)
    refine(zmany_any (({w with ret:=l}:Wr)) hsm1 hsm2 _ _ HV.o).mono ?_;rintro e w21 ⟨rfl,hb21⟩;have HF21:=aB ((HF11).o.next hbl (gI hb21 _));have HS21:=aB ((HS11).o.bl hb21);clear hb21;cases hm:manyW (({w with ret:=l}:Wr)) with
    |true=>
     have HB:=aB ((HE10).o.trans (show endR _ (({w with ret:=l}:Wr))= .bad 270 from by unfold endR;rw[if_pos hm]));clear hm;go_wp2_with fail
     (with_reducible refine(zmust_no _ _).mono ?_)
     rintro e w' ⟨rfl,rfl⟩;go_wp2;exact⟨rfl,d2o.no HF21.o.grown HS21.o (.inr (.inr rfl)) HB.o⟩
    |false=>
     have HB:=aB ((HE10).o.trans (show endR _ (({w with ret:=l}:Wr))= .good _ (({w with ret:=l}:Wr)) from by unfold endR;rw[if_neg (by rw[hm];decide)]));clear hm;go_wp2_with fail
     (with_reducible refine(zmust_yes _ _).mono ?_)
     rintro e w' ⟨rfl,rfl⟩;have HP21:=aB HF21.o.p;go_wp2_with (first |(refine wpList_load_row rfl 46 (.tmp 2) rfl (W.heap.size+1) rfl 46 _ (0,0) _ HF21.o.x underlying46 rfl wrInfo ?_)|(refine bA (g:=W.heap.size+1) (i:=0) rfl rfl rfl rfl (cellsW (({w with ret:=l}:Wr)) (({s with ret:= .slice ia l.length ic}:SlW))) HF21.o.x rfl rfl wrInfo HP21.o.one ?_))
     intro w22 hB22 hX22;have HF22:=aB (HF21.o.but hB22 hX22 HP21.o);have HS22:=aB (HS21.o.but hB22 aE aE);clear hB22 hX22;go_wp2;refine bodyPost_ret (v:= .agg (cellsW (({w with ret:=l}:Wr)) (({s with ret:= .slice ia l.length ic}:SlW))).toArray) (results_cell_row (p:=2) (ty:=46) rfl _ _ (W.heap.size+1) 46 _ (0,0) _ rfl HF22.o.x underlying46 rfl wrInfo) rfl ?_;exact d2o.yes HF22.o.grown HS22.o HB.o ⟨_,rfl,HF22.o.p.keep (aH _) (fun b (hb:_<b)=>by omega) fun _ _ _=>rfl⟩
end
end Go.Proofs.YtohlomdapelgeaaGreatDoor
