/- Texts SX. -/
import Derived.Test.YtohlomdapelgeaaGreatDoorDF
namespace Go.Proofs.YtohlomdapelgeaaGreatDoor
open _root_.Go.Proofs.Tryz
open Go.RowKit
open _root_.Go.Act renaming put->aK
open _root_.Go.RowKit.Below renaming grown->iL
open _root_.Bool renaming and_eq_true->aQ
open _root_.Go.Lib renaming decDigits->bJ,hid->aB,itoa->dQ
open _root_.List renaming getElem?_eq_getElem->aP,getElem_mem->dS,length_append->bD,length_map->mD,map_append->kW,mem_cons->dD,setIfInBounds_toArray->aA,set_cons_succ->aF,set_cons_zero->aD,take_add_one->dN,take_length->gJ
open _root_.Nat renaming le_trans->jH,zero_le->dL
open NoPanic renaming normal->bF
open _root_.Go.Region renaming wanted->jG
open _root_.Go.World renaming block_lt_of_cell?->bB,ownsRow_nil->d2l,size_alloc->aR
set_option maxRecDepth 100000
set_option maxHeartbeats 1000000
section
theorem itoa_ne(n:Int):dQ n≠[]:=by
 have hd:∀u,bJ u≠[]:=fun u=>by
  unfold bJ;split<;>simp
 unfold dQ;split
 ·simp
 ·exact hd _
theorem name_some{s:List UInt8}(h:mO s=true):s≠[]:=fun e=>by
 subst e;exact absurd h ae
theorem fullT_of{s:List UInt8}(h:s≠[]):fullT s=true:=by simp[fullT,h]
theorem fullT_nil:fullT []=false:=rfl
theorem textE_ne:∀{x:Ex},eH x=true->eY x≠[]
 | .mk k v t n o args,h=>by
  have hr:dV k v t n o args=true:=vF h;unfold dV at hr;unfold eY uB;split
  ·unfold lit;split
   ·decide
   split
   ·cases hb:(v.2.1==1)<;>decide+kernel
   split
   ·exact itoa_ne _
   split
   ·simp[vS]
   ·simp[uI]
  split
  ·rename_i h1 h2;rw[if_neg h1,if_pos h2] at hr;simp only[aQ] at hr;split
   ·exact name_some hr.1.2
   ·simp
  split
  ·simp[qN]
  split
  ·simp[qN]
  split
  ·simp[mR]
  split
  ·simp[qN]
  split
  ·simp[mR]
  ·simp[mR]
theorem setT_words(s:St):jR [32] [s.n,[61],eY s.x]=setT s:=by simp[jR,setT]
theorem set_words{s:St}(hn:mO s.n=true)(hC:eH s.x=true):jR [32] ([s.n,[61],eY s.x].filter fullT)=setT s:=by
 rw[full_all (fun x hx=>?_),setT_words];simp only[dD,List.not_mem_nil,or_false] at hx;rcases hx with rfl|rfl|rfl
 ·exact name_some hn
 ·decide
 ·exact textE_ne hC
theorem zsetT_any{s:St}(hn:mO s.n=true)(hp:e0m s.x)(hC:eH s.x=true)(hl:(setT s).length<=100000000){sv:Value}(W:World)(hr:gU W sv s.x.args)(hG:nD W):
  eg 68 #[.agg (S s.n::qD s.x sv).toArray] W fun e w'=>e= .returned (S (setT s))/\Bl W w':=by
 have HE:Hid (∀w,Bl W w->eg 71 #[.agg (qD s.x sv).toArray] w fun e w'=>e= .returned (S (eY s.x))/\Bl w w'):=fun w hb=>ztext_any hp hC w _ ⟨_,rfl,hr.bl hb⟩ (hG.bl hb);have HW:Hid (∀w,eg 24 #[.slice (some ⟨w.heap.size,0,none⟩) 3 3] (w.alloc (.cells #[S s.n,S [61],S (eY s.x)] 9)) fun e w'=>e= .returned (S (setT s))/\Bl w w'):=fun w=>by
  have h:=zwords_new (W:=w) [s.n,[61],eY s.x] _ 3 _ rfl rfl aa rfl ⟨s.n,by simp,name_some hn⟩ (by rw[set_words hn hC];exact hl);rw[set_words hn hC] at h;exact h
 generalize eY s.x=u at *;generalize setT s=v at *;clear hn hp hC hl hr hG;go_enter func68,ntmps68;go_wp2_with (refine wpList_boxO rfl 63 (.tmp 0) rfl (S s.n::qD s.x sv) rfl ?_)
 intro w0 hb0 hX0;have HB0:=aB hb0;have HX0:=aB hX0;clear hb0 hX0;go_wp2_with fail;refine wp_region_noPanic (bM (fun B=>B.heap[W.heap.size]?=some (.cells (S s.n::qD s.x sv).toArray 63 (0,0))) ((.take 0 (.take 1 (.take 2 (.take 3 (.one 4 (.one 5 (.one 6 (.take 7 .done))))))))) af af af (fun _ _ _ _ _ h=>h) (HX0.o) ?_);intro wd HWD hY;iterate 3 (refine aI rfl ab (by intro w hSw;(try dsimp only at hSw);have c0:=cell_of (i:=0) hSw rfl;go_simp;(try(first |with_reducible rfl|rfl))) ?_;(try simp only[aK,aA,aD,aF]))
 refine aI rfl ab (fun wS hSw=>run_load_midO rfl rfl (range_of (i:=1) (xs:=qD s.x sv) hSw rfl) underlying38 rfl d4b) ?_;(try simp only[aK,aA,aD,aF])
 refine aL rfl (fun K hK=>?_);go_simp;(refine(HE.o _ (HB0.o.call HWD.o)).mono ?_;rintro e w3 ⟨rfl,hb3⟩;have hb:=hb3);go_wp2_with fail;refine hK.o _ _ (ap) ?_;clear hY hK K;intro hY;clear hb;have HEX:=aB hY;refine aL rfl (fun K hK=>?_);go_simp;refine hK.o _ _ (((((Bl.refl _).alloc _).block _ (lt_of_heap hY)).trans hY)) ?_;clear hY hK K;intro hY;refine aL rfl (fun K hK=>?_);go_simp;(refine(HW.o _).mono ?_;rintro e w4 ⟨rfl,hb4⟩;have hb:=hb4);go_wp2_with fail;refine hK.o _ _ (ap) ?_;clear hY hK K;intro hY;clear hb;refine aI rfl ab (by intro w hSw;(try dsimp only at hSw);have c0:=cell_of (i:=0) hSw rfl;go_simp;(try(first |with_reducible rfl|rfl))) ?_;(try simp only[aK,aA,aD,aF])
 refine fO (bF ?_);go_wp2;go_ret;exact⟨rfl,((HB0.o.call HWD.o).call hb3).call hb4⟩
theorem ztoldRow_any{W:World}{p:Nat->Prop}{v:Value}{l:List (List Ex)}(hl:RowsG gRow p W v l)(hlen:l.length<=1000000){fid:FuncId}{tx:List Ex->List UInt8}(hen:∀(args:Array Value) (w:World),(callFunc fid args).run prog w= .ok (.enter fid args) w)
  (hf:∀x∈l,∀(W':World) (s:Value),Bl W W'->bG p W' s x->eg fid #[s] W' fun e w'=>e= .returned (S (tx x))/\Bl W' w'):
  eg 59 #[v,.func (.func fid) #[] #[]] W fun e w'=>(∃v',e= .returned v'/\w'.ownsRow W.heap.size 9 1 v' l.length ((l.map tx).map fun x=>S x))/\Bl W w':=by
 obtain⟨a,cap,rfl,hsh⟩:=hl.shape;have HC:=aB hsh;have HFN:=aB hf;clear hl hsh hf;go_enter func59,ntmps59;go_wp2_with fail;go_loopw [4,9] (fun o i wr=>∃(v0:Value) (j:Nat),v0=o/\i= .int .i64 (j:Int)/\j<=l.length/\Hid (wr.ownsRow W.heap.size 9 1 v0 j (((l.take j).map tx).map fun x=>S x))/\Hid (Bl W wr)) (fun _ i _=>l.length-(intOf i).toNat)
 case atStart=>exact⟨_,0,rfl,rfl,dL _,d2l _ _ _ _,Bl.refl W⟩
 case round=>
  obtain⟨v0,j,rfl,rfl,hj,HO,HB⟩:=hrel;have hzr:=HB.o.size;by_cases hlt:j<l.length
  ·obtain⟨b,off,cs,rfl,-,hb,hcs,s,rfl,hlies⟩:=HC.o j hlt;have e0:wr.cell? ⟨b,off+j,none⟩=some s:=by
    have h:=(hcs.keep (HB.o.block b hb)) 0 s rfl;simpa[gRow] using h
   have HLI:=aB (hlies.keepB (r:=p) (fun _ _ h=>h) (fun b _ hl=>HB.o.block b hl));have HTX:=aB (show((l.take (j+1)).map tx).map (fun x=>S x)=((l.take j).map tx).map (fun x=>S x)++[S (tx l[j])] from by rw[dN,aP hlt,kW,kW];rfl);have HFJ:=aB (HFN.o l[j] (dS hlt));have hlow:=aB HO.o.lt;have hlt':(j:Int)<(l.length:Int):=aE;obtain⟨y,hy⟩:∃y:List UInt8,Hid (tx l[j]=y):=⟨tx l[j],aB rfl⟩
   rw[hy.o] at HTX HFJ;obtain⟨xs,hxs⟩:∃xs:List Value,Hid (((l.take j).map tx).map (fun x=>S x)=xs):=⟨_,aB rfl⟩
   rw[hxs.o] at HTX HO;obtain⟨sa,sc,rfl⟩:=hlies.shape;clear hcs hlies;go_wp2_with fail;refine(HFJ.o wr _ HB.o HLI.o).mono ?_;rintro e w2 ⟨rfl,hb2⟩;have HB2:=aB (HB.o.call hb2);have HO2:=aB (gY hb2 HO.o);have hz2:=HB2.o.size;clear hb2 HFJ;go_wp2_with (at_builtin;refine wpList_append_rowZ rfl (.tmp 13) (.tmp 17) rfl strInfoZ underlying27 rfl ae ae W.heap.size v0 j _ rfl (gY ((Bl.refl _).alloc _) HO2.o) w2.heap.size [S y] rfl (aN w2 _) rfl rfl aE am ?_)
   intro v' w6 hown6 hg6 hat;obtain⟨g6,c6,rfl⟩:=nG hown6;have HO6:=aB hown6;rw[<-HTX.o] at HO6;have HB6:=aB (show Bl W w6 from iL (HB2.o.alloc _) hg6 am (fun k e=>(hlow.o k e).1));clear hown6 hg6 hat;go_wp2;go_roundw
   case rel=>exact⟨_,j+1,rfl,by go_num,hlt,HO6.o,HB6.o⟩
   case measure=>simp[intOf];omega
  ·obtain rfl:j=l.length:=by omega
   rw[gJ] at HO;have hge:¬((l.length:Int)<(l.length:Int)):=aE;go_wp2;go_ret;exact⟨⟨v0,rfl,by first |exact HO.o|(have h:=HO.o;rw[List.map_map] at h;exact h)⟩,HB.o⟩
def clauseT(w:List UInt8)(x:Ex):List UInt8:=if d3i x then[] else w++[32]++eY x
theorem clause_opt(w:List UInt8)(x:Ex):optT w x=if d3i x then[] else[32]++clauseT w x:=by
 unfold optT clauseT;split
 ·rfl
 ·simp
theorem may_check{x:Ex}(h:mayB x=true)(hn:d3i x=false):eH x=true:=by
 unfold mayB at h;rw[hn,Bool.false_or] at h;exact h
theorem zclause_any{x:Ex}(word:List UInt8)(hw:word≠[])(hp:e0m x)(hm:mayB x=true)(hl:(clauseT word x).length<=100000000)(W:World)(v:Value)(hv:eO W x v)(hG:nD W):
  eg 65 #[S word,v] W fun e w'=>e= .returned (S (clauseT word x))/\Bl W w':=by
 have HN:Hid (∀w,Bl W w->eg 100 #[v] w fun e w'=>e= .returned (.bool (d3i x))/\Bl w w'):=fun w hb=>znone_any hp.parts w v (hv.bl hb);cases hn:d3i x
 ·have hC:=may_check hm hn;have hT:clauseT word x=word++[32]++eY x:=(by unfold clauseT;rw[hn];rfl);have HE:Hid (∀w,Bl W w->eg 71 #[v] w fun e w'=>e= .returned (S (eY x))/\Bl w w'):=fun w hb=>ztext_any hp hC w v (hv.bl hb) (hG.bl hb);have hf:jR [32] ([word,eY x].filter fullT)=clauseT word x:=by
   rw[full_all (fun y hy=>?_),hT]
   ·simp[jR]
   ·simp only[dD,List.not_mem_nil,or_false] at hy;rcases hy with rfl|rfl
    ·exact hw
    ·exact textE_ne hC
  have HW:Hid (∀w,eg 24 #[.slice (some ⟨w.heap.size,0,none⟩) 2 2] (w.alloc (.cells #[S word,S (eY x)] 9)) fun e w'=>e= .returned (S (clauseT word x))/\Bl w w'):=fun w=>by
   have h:=zwords_new (W:=w) [word,eY x] _ 2 _ rfl rfl aa rfl ⟨word,by simp,hw⟩ (by rw[hf];exact hl);rw[hf] at h;exact h
  rw[hn] at HN;obtain⟨sv,rfl,-⟩:=hv;generalize eY x=u at *;generalize clauseT word x=r at *;clear hl hm hC hp hG hn hf hT;go_enter func65,ntmps65;go_wp2_with (refine wpList_boxO rfl 38 (.tmp 1) rfl (qD x sv) rfl ?_)
  intro w0 hb0 hX0;have HB0:=aB hb0;have HX0:=aB hX0;clear hb0 hX0;go_wp2_with (refine wpList_load_midG ar 38 (.tmp 3) rfl W.heap.size 0 rfl (qD x sv) _ (range_of HX0.o rfl) underlying38 rfl d4b ?_)
  refine(HN.o _ HB0.o).mono ?_;rintro e w1 ⟨rfl,hb1⟩;have HB1:=aB (HB0.o.call hb1);have HX1:=aB ((hb1.block _ (lt_of_heap HX0.o)).trans HX0.o);clear hb1 HX0 HB0;go_wp2_with (refine wpList_load_midG ar 38 (.tmp 3) rfl W.heap.size 0 rfl (qD x sv) _ (range_of HX1.o rfl) underlying38 rfl d4b ?_)
  refine(HE.o _ HB1.o).mono ?_;rintro e w2 ⟨rfl,hb2⟩;have HB2:=aB (HB1.o.call hb2);clear hb2;go_wp2_with fail;refine(HW.o _).mono ?_;rintro e w3 ⟨rfl,hb3⟩;go_wp2;go_ret;exact⟨rfl,HB2.o.call hb3⟩
 ·have hT:clauseT word x=[]:=by unfold clauseT;rw[hn];rfl
  rw[hT];rw[hn] at HN;obtain⟨sv,rfl,-⟩:=hv;clear hl hm hp hG hn hT;go_enter func65,ntmps65;go_wp2_with (refine wpList_boxO rfl 38 (.tmp 1) rfl (qD x sv) rfl ?_)
  intro w0 hb0 hX0;have HB0:=aB hb0;have HX0:=aB hX0;clear hb0 hX0;go_wp2_with (refine wpList_load_midG ar 38 (.tmp 3) rfl W.heap.size 0 rfl (qD x sv) _ (range_of HX0.o rfl) underlying38 rfl d4b ?_)
  refine(HN.o _ HB0.o).mono ?_;rintro e w1 ⟨rfl,hb1⟩;go_wp2;go_ret;exact⟨rfl,HB0.o.call hb1⟩
theorem enters_ztext(args:Array Value)(w:World):(callFunc 71 args).run prog w= .ok (.enter 71 args) w:=by simp[go_sem]
theorem enters_zsetT(args:Array Value)(w:World):(callFunc 68 args).run prog w= .ok (.enter 68 args) w:=by simp[go_sem]
theorem rowsg_ex{p:Nat->Prop}{W:World}{sv:Value}{l:List Ex}(h:bG p W sv l):RowsG gEx p W sv l:=by
 cases h with
 |mk _ cap _ s h1 h2=>
  refine⟨_,cap,rfl,fun h=>absurd h ae,fun j x hx=>?_⟩;obtain⟨b,off,e,hb,h8⟩:=h1 j x hx;refine⟨b,off,qD x (s j),e,hb,?_,?_,s j,rfl,h2 j x hx⟩
  ·have:=bB _ _ h8.1;simpa using this
  ·intro i v hv;obtain⟨g0,g1,g2,g3,g4,g5,g6,g7⟩:=h8
   match i,hv with
   |0,hv=>injection hv with hv;subst hv;exact g0
   |1,hv=>injection hv with hv;subst hv;exact g1
   |2,hv=>injection hv with hv;subst hv;exact g2
   |3,hv=>injection hv with hv;subst hv;exact g3
   |4,hv=>injection hv with hv;subst hv;exact g4
   |5,hv=>injection hv with hv;subst hv;exact g5
   |6,hv=>injection hv with hv;subst hv;exact g6
   |7,hv=>injection hv with hv;subst hv;exact g7
   |n+8,hv=>simp[qD] at hv
theorem own_told{α:Type}{W:World}{base:Nat}{v:Value}{l:List α}{tx:α->List UInt8}(h:W.ownsRow base 9 1 v l.length ((l.map tx).map fun x=>S x)):(l.map tx=[]/\∃a c,v= .slice a 0 c)\/StrsO W v (l.map tx):=
 (b8c (base:=base) (by rw[mD];exact h)).imp id sW.o
theorem join_mem_le{s:List UInt8}{α:Type}{l:List α}{tx:α->List UInt8}{n:Nat}(h:(jR s (l.map tx)).length<=n):∀x∈l,(tx x).length<=n:=fun _ hx=>jH (d7l (List.mem_map_of_mem hx)) h
theorem join_ne{s:List UInt8}:∀{l:List (List UInt8)},l≠[]->(∀x∈l,x≠[])->jR s l≠[]
 |[],h,_=>absurd rfl h
 |[x],_,h=>h x aa
 |x::y::r,_,h=>by
  have:=h x aa;simp[jR,this]
def valuesT(l:List Ex):List UInt8:=if l=[] then[] else rowT l
theorem listed_nested(l:List (List UInt8)):listedT l=if l=[] then[] else[32]++([40]++jR [44,32] l++[41]):=by
 unfold listedT;split
 ·rfl
 ·simp
theorem zvalues_any{p:Nat->Prop}{l:List Ex}(hok:∀x∈l,e0m x/\eH x=true)(hlen:l.length<=1000000)(hl:(rowT l).length<=100000000)(W:World)(v:Value)(hr:bG p W v l)(hG:nD W):
  eg 60 #[v] W fun e w'=>e= .returned (S (valuesT l))/\Bl W w':=by
 have HT:=aB (ztoldEx_any (rowsg_ex hr) hlen (tx:=eY) enters_ztext fun x hx W' cs hb hcs=>by
  obtain⟨s,rfl,hs⟩:=hcs;exact ztext_any (hok x hx).1 (hok x hx).2 W' _ ⟨s,rfl,hs.reads⟩ (hG.bl hb))
 have hj:(jR [44,32] (l.map eY)).length<=100000000:=by
  unfold rowT at hl;simp only[bD] at hl;omega
 have HN:Hid (∀w sv,((l.map eY=[]/\∃a c,sv= .slice a 0 c)\/StrsO w sv (l.map eY))->eg 63 #[sv] w fun e w'=>e= .returned (S (valuesT l))/\Bl w w'):=fun w sv h=>by
  have h2:=znested_any h (by simpa using hlen) hj;have e:(if l.map eY=[] then[] else[40]++jR [44,32] (l.map eY)++[41]:List UInt8)=valuesT l:=by
   unfold valuesT rowT;cases l<;>simp
  rw[e] at h2;exact h2
 obtain⟨a,cap,rfl⟩:=hr.shape;generalize valuesT l=u at *;clear hok hl hj hr hG;go_enter func60,ntmps60;go_wp2_with fail;refine HT.o.mono ?_;rintro e w1 ⟨⟨v',rfl,ho⟩,hb1⟩;have HS:=aB (own_told ho);have HB1:=aB hb1;clear ho hb1;go_wp2_with fail;refine(HN.o _ _ HS.o).mono ?_;rintro e w2 ⟨rfl,hb2⟩;go_wp2;go_ret;exact⟨rfl,HB1.o.call hb2⟩
structure StOK(s:St):Prop where
 n:mO s.n=true
 c:eH s.x=true
 x:e0m s.x
theorem setT_ne(s:St):setT s≠[]:=by simp[setT]
theorem setsT_ne{l:List St}(h:l≠[]):setsT l≠[]:=join_ne bb fun x hx=>by
 obtain⟨s,-,rfl⟩:=List.mem_map.1 hx;exact setT_ne s
def wUpdSet:List UInt8:=[117,112,100,97,116,101,32,115,101,116]
def updT(l:List St):List UInt8:=wUpdSet++[32]++setsT l
theorem ztoldSets_any{p:Nat->Prop}{l:List St}(hok:∀s∈l,StOK s)(hlen:l.length<=1000000)(hl:(setsT l).length<=100000000)(W:World)(v:Value)(hr:RowsG gSt p W v l)(hG:nD W):
  eg 67 #[v,.func (.func 68) #[] #[]] W fun e w'=>(∃v',e= .returned v'/\((l.map setT=[]/\∃a c,v'= .slice a 0 c)\/StrsO w' v' (l.map setT)))/\Bl W w':=
 (ztoldSet_any hr hlen (tx:=setT) enters_zsetT fun x hx W' cs hb hcs=>by
  obtain⟨s,rfl,hs⟩:=hcs;exact zsetT_any (hok x hx).n (hok x hx).x (hok x hx).c (join_mem_le hl x hx) W' hs.reads (hG.bl hb)).mono fun e w' h=>by
   obtain⟨⟨v',h1,h2⟩,h3⟩:=h;exact⟨⟨v',h1,own_told h2⟩,h3⟩
theorem zupdT_any{p:Nat->Prop}{l:List St}(hok:∀s∈l,StOK s)(h0:l≠[])(hlen:l.length<=1000000)(hl:(updT l).length<=100000000)(W:World)(v:Value)(hr:RowsG gSt p W v l)(hG:nD W):
  eg 64 #[v] W fun e w'=>e= .returned (S (updT l))/\Bl W w':=by
 have hl2:(setsT l).length<=100000000:=by
  unfold updT at hl;simp only[bD] at hl;omega
 have HT:=aB (ztoldSets_any hok hlen hl2 W v hr hG);have hne:=setsT_ne h0;have HC:Hid (∀w sv,((l.map setT=[]/\∃a c,sv= .slice a 0 c)\/StrsO w sv (l.map setT))->eg 58 #[sv] w fun e w'=>e= .returned (S (setsT l))/\Bl w w'):=fun w sv h=>by
  have hs:=h.resolve_left fun h=>(by simpa[h0] using h.1);exact zcommas_any hs (by simpa using hlen) hl2
 have hf:jR [32] ([wUpdSet,setsT l].filter fullT)=updT l:=by
  rw[full_all fun x hx=>?_]
  ·simp[jR,updT]
  ·simp only[dD,List.not_mem_nil,or_false] at hx;rcases hx with rfl|rfl
   ·decide
   ·exact hne
 have HW:Hid (∀w,eg 24 #[.slice (some ⟨w.heap.size,0,none⟩) 2 2] (w.alloc (.cells #[S wUpdSet,S (setsT l)] 9)) fun e w'=>e= .returned (S (updT l))/\Bl w w'):=fun w=>by
  have h:=zwords_new (W:=w) [wUpdSet,setsT l] _ 2 _ rfl rfl aa rfl ⟨wUpdSet,by simp,by decide⟩ (by rw[hf];exact hl);rw[hf] at h;exact h
 obtain⟨a,cap,rfl,-⟩:=hr.shape;generalize setsT l=u at *;generalize updT l=u2 at *;clear hok hl hl2 hr hG hne hf;go_enter func64,ntmps64;go_wp2_with fail;refine HT.o.mono ?_;rintro e w1 ⟨⟨v',rfl,hs⟩,hb1⟩;have HS:=aB hs;have HB1:=aB hb1;clear hs hb1;go_wp2_with fail;refine(HC.o _ _ HS.o).mono ?_;rintro e w2 ⟨rfl,hb2⟩;have HB2:=aB (HB1.o.call hb2);clear hb2;go_wp2_with fail;refine(HW.o _).mono ?_;rintro e w3 ⟨rfl,hb3⟩;go_wp2;go_ret;exact⟨rfl,HB2.o.call hb3⟩
end
end Go.Proofs.YtohlomdapelgeaaGreatDoor
