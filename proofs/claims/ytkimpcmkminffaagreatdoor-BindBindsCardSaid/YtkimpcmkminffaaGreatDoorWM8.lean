/- Texts beside the shared ones. -/
import Derived.Test.YtkimpcmkminffaaGreatDoorWX0
import Derived.Test.YtkimpcmkminffaaGreatDoorWM7
namespace Go.Proofs.YtkimpcmkminffaaGreatDoor
open Go.RowKit
open _root_.Array renaming getElem?_eq_some_iff->aC
open _root_.Go.Lib renaming cell_of_heap->aG,frozen_of_heap->aJ,hid->aB
open _root_.List renaming getElem?_cons_succ->iH,getElem?_eq_some_iff->aO,length_cons->aX,length_map->mD,mem_cons->dD
open _root_.Nat renaming le_refl->aH
open _root_.Go.World renaming block_lt_of_cell?->bB
set_option maxRecDepth 100000
set_option maxHeartbeats 16000000
section
theorem typed_eq(k:Int)(v:Vl)(p o:Int)(n:List UInt8)(l:List Bd)(hk:k=1\/k=3\/k=4\/k=5)(h5:k=5->l.length<=1):(typeD k o 0 v n l).2=(kindR (.mk k 0 v p o n l)).2/\((kindR (.mk k 0 v p o n l)).2=0->(typeD k o 0 v n l).1=(kindR (.mk k 0 v p o n l)).1):=by
 unfold typeD kindR;simp only[Bd.k,Bd.t,Bd.v,Bd.o,Bd.n,Bd.args];rcases hk with rfl|rfl|rfl|rfl
 ·rw[if_neg (by rw[show decide ((1:Int)=4)=false from rfl,allT_false];exact fun h=>h rfl)];simp
 ·rw[if_neg (by rw[show decide ((3:Int)=4)=false from rfl,allT_false];exact fun h=>h rfl)];simp
 ·rw[show decide ((4:Int)=4)=true from rfl];by_cases h:(allT true 0 (l.map Bd.t)).2=0
  ·simp[h]
  ·simp[h]
 ·rw[show decide ((5:Int)=4)=false from rfl,<-allT_one _ (by simpa using h5 rfl)];have hz:(allT true 0 (l.map Bd.t)).2=0:=(by rw[allT_one _ (by simpa using h5 rfl),allT_false]);rw[if_neg (fun h=>h hz)];unfold sumT;rw[hz];simp only[show((5:Int)=1)=False from by simp,show((5:Int)=2)=False from by simp,show((5:Int)=3)=False from by simp,show((5:Int)=4)=False from by simp,if_false,if_true,ne_eq,not_true_eq_false];split
  ·simp
  ·split
   ·simp
   ·simp
theorem find_mem{x:Ex}:∀{l:List Fd} {i j:Nat} {f:Fd} {r:List (Nat×Fd)},findFd x i l=(j,f)::r->i<=j/\l[j-i]?=some f
 |[],_,_,_,_,h=>by cases h
 |g::s,i,j,f,r,h=>by
  simp only[findFd] at h;by_cases hg:isFd x g=true
  ·rw[if_pos hg] at h;injection h with h1 _;injection h1 with h1 h2;subst h1;subst h2;simp
  ·rw[if_neg hg] at h;obtain⟨h1,h2⟩:=find_mem h;refine⟨by omega,?_⟩;obtain⟨d,rfl⟩:∃d,j=i+1+d:=⟨j-(i+1),by omega⟩
   rw[show i+1+d-i=d+1 by omega,iH];rw[show i+1+d-(i+1)=d by omega] at h2;exact h2
theorem bind_bad{fs:List Fd}{k:Int}{v:Vl}{t n:List UInt8}{o:Int}{args:List Ex}(h:(seqD (args.map (bindD fs))).2≠0):bindD fs (.mk k v t n o args)=(zeroD,(seqD (args.map (bindD fs))).2):=by
 simp only[bindD];rw[binds_seq,if_pos h]
theorem bind_col{fs:List Fd}{v:Vl}{t n:List UInt8}{o:Int}{args:List Ex}(h:(seqD (args.map (bindD fs))).2=0):
  ((foundR (.mk 2 v t n o args) fs).2≠0/\bindD fs (.mk 2 v t n o args)=(zeroD,(foundR (.mk 2 v t n o args) fs).2))\/∃(i:Nat) (f:Fd),fs[i]?=some f/\foundR (.mk 2 v t n o args) fs=((i:Int),0)/\bindD fs (.mk 2 v t n o args)=(.mk 2 f.t v i o [] (seqD (args.map (bindD fs))).1,0):=by
 unfold foundR;simp only[bindD];rw[binds_seq,if_neg (fun e=>e h)];simp only[if_true]
 match hf:findFd (.mk 2 v t n o args) 0 fs with
 |[]=>exact .inl ⟨by simp,rfl⟩
 |[(i,f)]=>exact .inr ⟨i,f,(find_mem hf).2,rfl,rfl⟩
 |_::_::_=>exact .inl ⟨by simp,rfl⟩
theorem bind_oth{fs:List Fd}{k:Int}{v:Vl}{t n:List UInt8}{o:Int}{args:List Ex}(h:(seqD (args.map (bindD fs))).2=0)(hk:k=1\/k=3\/k=4\/k=5)(h5:k=5->(seqD (args.map (bindD fs))).1.length<=1)(nm:List UInt8)(hn:nm=if k=5 then n else[]):
  bindD fs (.mk k v t n o args)=if(kindR (.mk k 0 v 0 o nm (seqD (args.map (bindD fs))).1)).2=0 then(.mk k (kindR (.mk k 0 v 0 o nm (seqD (args.map (bindD fs))).1)).1 v 0 o nm (seqD (args.map (bindD fs))).1,0) else(zeroD,(kindR (.mk k 0 v 0 o nm (seqD (args.map (bindD fs))).1)).2):=by
 obtain⟨e1,e2⟩:=typed_eq k v 0 o nm (seqD (args.map (bindD fs))).1 hk h5;subst hn;simp only[bindD];rw[binds_seq,if_neg (fun e=>e h),if_neg (by omega)];rw[e1];by_cases hz:(kindR (.mk k 0 v 0 o (if k=5 then n else[]) (seqD (args.map (bindD fs))).1)).2=0
 ·rw[if_neg (fun e=>e hz),if_pos hz,e2 hz]
 ·rw[if_pos hz,if_neg hz]
theorem seqD_len:∀l:List (Bd×Int),(seqD l).1.length<=l.length
 |[]=>by simp[seqD]
 |y::r=>by
  have ih:=seqD_len r;unfold seqD;split
  ·simp
  ·split
   ·simp
   ·simp only[aX];omega
mutual
theorem bind_parts(fs:List Fd):∀x:Ex,partsD (bindD fs x).1<=fC x
 | .mk k v t n o args=>by
  have ih:=binds_parts fs args;have h1:partsD zeroD=1:=rfl;simp only[bindD,fC]
  repeat' split
  all_goals first
   |(show partsD zeroD<=_;omega)
   |(show 1+partssD (bindsD fs args).1<=_;omega)
theorem binds_parts(fs:List Fd):∀l:List Ex,partssD (bindsD fs l).1<=fF l
 |[]=>by simp[bindsD,partssD]
 |x::r=>by
  have h1:=bind_parts fs x;have h2:=binds_parts fs r;simp only[bindsD,fF];split
  ·simp[partssD]
  ·split
   ·simp[partssD]
   ·simp only[partssD];omega
end
theorem check_kinds{x:Ex}(h:eH x=true):(1<=x.k/\x.k<=5)/\(x.k=5->x.args.length<=1):=by
 obtain⟨k,v,t,n,o,l⟩:=x;have h:=(a0u h).1;simp only[a9r,Ex.k,Ex.v,Ex.t,Ex.n,Ex.o,Ex.args] at h⊢;unfold dV at h;by_cases h1:k=1
 ·omega
 by_cases h2:k=2
 ·omega
 by_cases h3:k=3
 ·omega
 by_cases h4:k=4
 ·omega
 by_cases h5:k=5
 ·subst h5;refine⟨by omega,fun _=>?_⟩;simp at h;rcases h.2 with h|h
  ·omega
  ·rw[h.1];simp
 ·simp[h1,h2,h3,h4,h5] at h
theorem BndP.panE{r:Bd×Int}{W w':World}(h:r.2≠0)(hb:Bl W w'):BndP r W (panE r.2) w':=⟨.inr ⟨h,rfl⟩,hb⟩
theorem bbound1_any{y:Ex}{r:Bd×Int}{W:World}{bx:Nat}{fv:Value}(hfv:∃a n c,fv= .slice a n c)(hx:W.cell? ⟨bx,0,none⟩=some fv)(v:Value)(hv:eO W y v)
  (hw:∀(W':World) (v':Value),Bl W W'->eO W' y v'->Calls Tryz.prog 34 #[fv,v'] W' (BndP r W')):
  Calls Tryz.prog 54 #[v,.pointer (some ⟨bx,0,none⟩)] W (BndP r W):=by
 obtain⟨sl,rfl,hR⟩:=hv;obtain⟨a,cap,rfl,-⟩:=hR.shape;obtain⟨fa,fn,fc,rfl⟩:=hfv;have HW:Hid (∀W',Bl W W'->Calls Tryz.prog 34 #[.slice fa fn fc,EV y.k y.v y.t y.n y.o (.slice a y.args.length cap)] W' (BndP r W')):=fun W' hb=>hw W' _ hb ⟨_,rfl,hR.bl hb⟩;have hbx:bx<W.heap.size:=(by have:=bB _ _ hx;simpa using this);clear hw hR;obtain⟨k,⟨v1,v2,v3⟩,t,n,o,args⟩:=y;simp only[Ex.k,Ex.t,Ex.v,Ex.o,Ex.n,Ex.args] at *;generalize args.length=m at *;obtain⟨rv,c⟩:=r;have HR0:=aB (aV (W.alloc (.cells #[.int .i64 k,.int .i64 v1,.int .i64 v2,S v3,S t,S n,.int .i64 o,.slice a m cap] 47)) (.cells (cellsB 0 0 0 0 [] 0 0 [] (.slice none 0 0)) 30) (k:=W.heap.size+1) (by simp));have HB0:=aB (((Bl.refl W).alloc (.cells #[.int .i64 k,.int .i64 v1,.int .i64 v2,S v3,S t,S n,.int .i64 o,.slice a m cap] 47)).alloc (.cells (cellsB 0 0 0 0 [] 0 0 [] (.slice none 0 0)) 30));go_enter Tryz.func54,Tryz.ntmps54;go_wp2_with fail;refine(HW.o _ HB0.o).mono ?_;rintro e w1 ⟨⟨hc,v',rfl,hrd⟩|⟨hc,rfl⟩,hb1⟩
 ·have HRD:=aB hrd;obtain⟨ba,bc,rfl⟩:=hrd.args;have HC:=aB hc;have hz0:W.heap.size+2=((W.alloc (.cells #[.int .i64 k,.int .i64 v1,.int .i64 v2,S v3,S t,S n,.int .i64 o,.slice a m cap] 47)).alloc (.cells (cellsB 0 0 0 0 [] 0 0 [] (.slice none 0 0)) 30)).heap.size:=(by simp);rw[<-hz0] at HRD;clear hc hrd hz0;obtain⟨rk,rt,⟨r1,r2,r3⟩,rp,ro,rn,ra⟩:=rv;simp only[Bd.k,Bd.t,Bd.v,Bd.p,Bd.o,Bd.n,Bd.args] at *;generalize hra:ra.length=q at *;go_wp2_with (refine bA (g:=W.heap.size+1) (i:=0) rfl rfl rfl rfl [.int .i64 rk,.int .i64 rt,.int .i64 r1,.int .i64 r2,S r3,.int .i64 rp,.int .i64 ro,S rn,.slice ba q bc] (keep_b HR0.o hb1) rfl rfl bdInfo rfl ?_)
  intro w9 hB9 hX9;go_wp2;refine bodyPost_ret (v:=BdV rk rt (r1,r2,r3) rp ro rn (.slice ba q bc)) (results_cell_row (p:=3) (ty:=30) rfl _ _ (W.heap.size+1) 30 _ (0,0) _ rfl hX9 Tryz.underlying30 rfl bdInfo) rfl ⟨.inl ⟨HC.o,_,rfl,?_⟩,hB9.bl (HB0.o.call hb1) (by omega)⟩;obtain⟨s,e,hs⟩:=HRD.o;refine⟨s,e,(hs.keep (r:=fun b=>W.heap.size<=b) (Nat.le_of_eq hB9.size.symm) (fun b (h:_<=b)=>by omega) fun b (h:_<=b) _=>hB9.same b (by omega))⟩
 ·have HC:=aB hc;clear hc;go_wp2;exact⟨rfl,.inr ⟨HC.o,rfl⟩,HB0.o.call hb1⟩
theorem enters_bbound1(args:Array Value)(w:World):(callFunc 54 args).run Tryz.prog w= .ok (.enter 54 args) w:=by simp[go_sem]
end
section
structure BoF(fv:Value)(xc u:List Value)(W A:World):Prop where
 f:A.heap[W.heap.size]?=some (.cells #[fv] 43 (0,0))
 x:A.heap[W.heap.size+1]?=some (.cells xc.toArray 47 (0,0))
 r:A.heap[W.heap.size+2]?=some (.cells (cellsB 0 0 0 0 [] 0 0 [] (.slice none 0 0)) 30 (0,0))
 u:A.heap[W.heap.size+3]?=some (.cells u.toArray 73 (0,0))
 bl:Bl W A
theorem BoF.call{fv:Value}{xc u:List Value}{W A B:World}(h:BoF fv xc u W A)(hb:Bl A B):BoF fv xc u W B:=⟨keep_b h.f hb,keep_b h.x hb,keep_b h.r hb,keep_b h.u hb,h.bl.call hb⟩
theorem BoF.but{fv:Value}{xc u u':List Value}{W A B:World}(h:BoF fv xc u W A)(hb:But (W.heap.size+3) A B)(hu:B.heap[W.heap.size+3]?=some (.cells u'.toArray 73 (0,0))):BoF fv xc u' W B:=
 ⟨(hb.same _ (by omega)).trans h.f,(hb.same _ (by omega)).trans h.x,(hb.same _ (by omega)).trans h.r,hu,hb.bl h.bl (by omega)⟩
theorem BoF.start(fv:Value)(xc u:List Value)(W:World):BoF fv xc u W ((((W.alloc (.cells #[fv] 43)).alloc (.cells xc.toArray 47)).alloc (.cells (cellsB 0 0 0 0 [] 0 0 [] (.slice none 0 0)) 30)).alloc (.cells u.toArray 73)):=
 ⟨keep_b (keep_b (keep_b (aN W _) ((Bl.refl _).alloc _)) ((Bl.refl _).alloc _)) ((Bl.refl _).alloc _),keep_b (keep_b (aV _ _ (by simp)) ((Bl.refl _).alloc _)) ((Bl.refl _).alloc _),keep_b (aV _ _ (by simp)) ((Bl.refl _).alloc _),aV _ _ (by simp),((((Bl.refl W).alloc _).alloc _).alloc _).alloc _⟩
abbrev unC9(k t v1 v2:Int)(v3:List UInt8)(p o:Int)(n:List UInt8)(s:Value):List Value:=[.int .i64 k,.int .i64 t,.int .i64 v1,.int .i64 v2,S v3,.int .i64 p,.int .i64 o,S n,s]
abbrev exC8(k v1 v2:Int)(v3 t n:List UInt8)(o:Int)(s:Value):List Value:=[.int .i64 k,.int .i64 v1,.int .i64 v2,S v3,S t,S n,.int .i64 o,s]
theorem cells_x{W:World}{g:Nat}{k v1 v2 o:Int}{v3 t n:List UInt8}{s:Value}{ty:TypeId}(h:W.heap[g]?=some (.cells (exC8 k v1 v2 v3 t n o s).toArray ty (0,0))):
  W.cell? ⟨g,0,none⟩=some (.int .i64 k)/\W.cell? ⟨g,1,none⟩=some (.int .i64 v1)/\W.cell? ⟨g,2,none⟩=some (.int .i64 v2)/\W.cell? ⟨g,3,none⟩=some (S v3)/\W.cell? ⟨g,4,none⟩=some (S t)/\W.cell? ⟨g,5,none⟩=some (S n)/\W.cell? ⟨g,6,none⟩=some (.int .i64 o)/\W.cell? ⟨g,7,none⟩=some s:=by
 refine⟨?_,?_,?_,?_,?_,?_,?_,?_⟩<;>(rw[aG h];rfl)
theorem slInfo:(Tryz.prog.info? 28).map (·.size)=some 1:=by kernel_rfl
theorem inInfo:(Tryz.prog.info? 3).map (·.size)=some 1:=by kernel_rfl
theorem d2j:(Tryz.prog.info? 9).map (·.size)=some 1:=by kernel_rfl
theorem bbound_bad{fs:List Fd}{k:Int}{v0:Vl}{t n:List UInt8}{o:Int}{args:List Ex}(hbad:(seqD (args.map (bindD fs))).2≠0)(W:World)(fa:Option Addr)(fc:Nat)(s:Value)(hs:∃a c,s= .slice a args.length c)
  (hargs:∀W',Bl W W'->∀bx,W'.heap[bx]?=some (.cells #[.slice fa fs.length fc] 43 (0,0))->Calls Tryz.prog 53 #[s,.func (.func 54) #[] #[.pointer (some ⟨bx,0,none⟩)]] W' (OwnD W'.heap.size (seqD (args.map (bindD fs))) W')):
  Calls Tryz.prog 34 #[.slice fa fs.length fc,EV k v0 t n o s] W (BndP (bindD fs (.mk k v0 t n o args)) W):=by
 obtain⟨a,cap,rfl⟩:=hs;obtain⟨v1,v2,v3⟩:=v0;rw[bind_bad hbad];have HF0:=aB (BoF.start (.slice fa fs.length fc) (exC8 k v1 v2 v3 t n o (.slice a args.length cap)) (unC9 k 0 v1 v2 v3 0 o [] (.slice none 0 0)) W);have HAR:=aB hargs;generalize seqD (args.map (bindD fs))=R at *;generalize args.length=m at *;clear hargs;go_enter Tryz.func34,Tryz.ntmps34;go_wp2_with fail;refine(HAR.o _ HF0.o.bl W.heap.size HF0.o.f).mono ?_;rintro e w1 ⟨⟨hc0,-⟩|⟨hc0,rfl⟩,hb1⟩
 ·exact absurd hc0 hbad
 have HC:=aB hc0;clear hc0 hbad;go_wp2;exact⟨rfl,.inr ⟨HC.o,rfl⟩,HF0.o.bl.call hb1⟩
theorem bbound_col{fs:List Fd}{v1 v2:Int}{v3 t n:List UInt8}{o:Int}{args:List Ex}{l1:List Bd}(hok:seqD (args.map (bindD fs))=(l1,0))(hp:partssD l1<=999999)(hfs:fs.length<=1000000)(W:World)(fa:Option Addr)(fc:Nat)(hfc:fs.length<=fc)(hfd:ReadsFd (fun _=>True) W (.slice fa fs.length fc) fs)(s:Value)(hs:∃a c,s= .slice a args.length c)
  (hargs:∀W',Bl W W'->∀bx,W'.heap[bx]?=some (.cells #[.slice fa fs.length fc] 43 (0,0))->Calls Tryz.prog 53 #[s,.func (.func 54) #[] #[.pointer (some ⟨bx,0,none⟩)]] W' (OwnD W'.heap.size (l1,0) W')):
  Calls Tryz.prog 34 #[.slice fa fs.length fc,EV 2 (v1,v2,v3) t n o s] W (BndP (bindD fs (.mk 2 (v1,v2,v3) t n o args)) W):=by
 have HFN:Hid (∀W',Bl W W'->∀sv,(∃a n c,sv= .slice a n c)->Calls Tryz.prog 55 #[.slice fa fs.length fc,EV 2 (v1,v2,v3) t n o sv] W' fun e w'=>e=resT (foundR (.mk 2 (v1,v2,v3) t n o args) fs)/\Bl W' w'):=fun W' hb sv hsv=>bfound_any (.mk 2 (v1,v2,v3) t n o args) fs hfs W' fa fc hfc sv (hfd.bl hb) hsv;have hbc:=bind_col (fs:=fs) (v:=(v1,v2,v3)) (t:=t) (n:=n) (o:=o) (args:=args) (by rw[hok]);rw[hok] at hbc;rcases hbc with⟨hbad,hr⟩|⟨i,f,hfi,hfr,hr⟩
 ·rw[hr];generalize foundR (.mk 2 (v1,v2,v3) t n o args) fs=R at *;obtain⟨ri,c⟩:=R;have HBD:Hid (resT (ri,c)=panE c):=(by unfold resT;exact if_neg hbad);rw[HBD.o] at HFN;have HC:=aB hbad;clear hbad hr hok hfd hfs hfc HBD;obtain⟨a,cap,rfl⟩:=hs;have HARGS:Hid (∀W',Bl W W'->∀bx,W'.heap[bx]?=some (.cells #[.slice fa fs.length fc] 43 (0,0))->Calls Tryz.prog 53 #[.slice a args.length cap,.func (.func 54) #[] #[.pointer (some ⟨bx,0,none⟩)]] W' (OwnD W'.heap.size (l1,0) W')):=hargs;have HF0:=aB (BoF.start (.slice fa fs.length fc) (exC8 (2) v1 v2 v3 t n o (.slice a args.length cap)) (unC9 (2) 0 v1 v2 v3 0 o [] (.slice none 0 0)) W);have HZ0:Hid (∀c:List Value,((((W.alloc (.cells #[.slice fa fs.length fc] 43)).alloc (.cells (exC8 (2) v1 v2 v3 t n o (.slice a args.length cap)).toArray 47)).alloc (.cells (cellsB 0 0 0 0 [] 0 0 [] (.slice none 0 0)) 30)).alloc (.cells c.toArray 73)).heap.size=W.heap.size+4):=fun c=>(by simp);clear hargs;go_enter Tryz.func34,Tryz.ntmps34;go_wp2_with fail;refine(HARGS.o _ HF0.o.bl W.heap.size HF0.o.f).mono ?_;rintro e w1 ⟨⟨-,v',rfl,hrd⟩|⟨hc0,-⟩,hb1⟩;rotate_left
  ·exact absurd rfl hc0
  rw[HZ0.o] at hrd;have HF1:=aB (HF0.o.call hb1);obtain⟨sa,sc,rfl,-⟩:=id hrd.shape;have HRD1:=aB hrd;have hsz1:W.heap.size+4<=w1.heap.size:=(by have:=hb1.size;rw[HZ0.o] at this;exact this);obtain⟨x0,x1,x2,x3,x4,x5,x6,x7⟩:=cells_x HF1.o.x;have xf:=cK HF1.o.f;clear hb1 hrd HARGS HF0 HZ0;go_wp2_with (refine bA (g:=W.heap.size+3) (i:=8) rfl rfl rfl rfl (unC9 (2) 0 v1 v2 v3 0 o [] (.slice sa l1.length sc)) HF1.o.u rfl rfl slInfo rfl ?_)
  intro w2 hB2 hX2;have HF2:=aB (HF1.o.but hB2 hX2);have HRD2:=aB (HRD1.o.keep (Nat.le_of_eq hB2.size.symm) (fun _ h=>h) fun b (h:_<=b) _=>hB2.same b (by omega));have hsz2:W.heap.size+4<=w2.heap.size:=(by rw[hB2.size];exact hsz1);clear x0 x1 x2 x3 x4 x5 x6 x7 xf hB2 hX2 HF1 HRD1 hsz1;obtain⟨x0,x1,x2,x3,x4,x5,x6,x7⟩:=cells_x HF2.o.x;obtain⟨u0,u1,u2,u3,u4,u5,u6,u7,u8⟩:=nine HF2.o.u;have xf:=cK HF2.o.f;go_wp2_with fail;refine(HFN.o _ HF2.o.bl (.slice a args.length cap) ⟨_,_,_,rfl⟩).mono ?_;rintro e w3 ⟨rfl,hb3⟩;go_wp2;exact⟨rfl,.inr ⟨HC.o,rfl⟩,HF2.o.bl.call hb3⟩
 ·rw[hr];obtain⟨f1,f2,ft⟩:=f;rw[hfr,resT_yes] at HFN;obtain⟨fa',fc',e,hcs⟩:=hfd;obtain⟨rfl,rfl⟩:fa=fa'/\fc=fc':=(by simpa using e);have HCS:=aB (hcs i _ hfi);have hil:i<fs.length:=(aO.1 hfi).1;have hil':(i:Int)<(fs.length:Int):=(by omega);have HTY:Hid (∀W' sv,Bl W W'->ReadsDL (fun b=>W.heap.size+4<=b) W' sv l1->Calls Tryz.prog 56 #[BdV 2 ft (v1,v2,v3) i o [] sv] W' fun e w'=>e= .returned (BdV 2 ft (v1,v2,v3) i o [] sv)/\Bl W' w'):=fun W' sv _ hrl=>by
   have h:=butyped_any (.mk 2 ft (v1,v2,v3) i o [] l1) (by simp[Bd.k]) (by simp only[partsD];omega) W' sv (hrl.keep (aH _) (fun _ _=>trivial) fun _ _ _=>rfl);exact h
  clear hr hok hfs hfc hcs e hfr hfi hp;obtain⟨a,cap,rfl⟩:=hs;have HARGS:Hid (∀W',Bl W W'->∀bx,W'.heap[bx]?=some (.cells #[.slice fa fs.length fc] 43 (0,0))->Calls Tryz.prog 53 #[.slice a args.length cap,.func (.func 54) #[] #[.pointer (some ⟨bx,0,none⟩)]] W' (OwnD W'.heap.size (l1,0) W')):=hargs;have HF0:=aB (BoF.start (.slice fa fs.length fc) (exC8 (2) v1 v2 v3 t n o (.slice a args.length cap)) (unC9 (2) 0 v1 v2 v3 0 o [] (.slice none 0 0)) W);have HZ0:Hid (∀c:List Value,((((W.alloc (.cells #[.slice fa fs.length fc] 43)).alloc (.cells (exC8 (2) v1 v2 v3 t n o (.slice a args.length cap)).toArray 47)).alloc (.cells (cellsB 0 0 0 0 [] 0 0 [] (.slice none 0 0)) 30)).alloc (.cells c.toArray 73)).heap.size=W.heap.size+4):=fun c=>(by simp);clear hargs;go_enter Tryz.func34,Tryz.ntmps34;go_wp2_with fail;refine(HARGS.o _ HF0.o.bl W.heap.size HF0.o.f).mono ?_;rintro e w1 ⟨⟨-,v',rfl,hrd⟩|⟨hc0,-⟩,hb1⟩;rotate_left
  ·exact absurd rfl hc0
  rw[HZ0.o] at hrd;have HF1:=aB (HF0.o.call hb1);obtain⟨sa,sc,rfl,-⟩:=id hrd.shape;have HRD1:=aB hrd;have hsz1:W.heap.size+4<=w1.heap.size:=(by have:=hb1.size;rw[HZ0.o] at this;exact this);obtain⟨x0,x1,x2,x3,x4,x5,x6,x7⟩:=cells_x HF1.o.x;have xf:=cK HF1.o.f;clear hb1 hrd HARGS HF0 HZ0;go_wp2_with (refine bA (g:=W.heap.size+3) (i:=8) rfl rfl rfl rfl (unC9 (2) 0 v1 v2 v3 0 o [] (.slice sa l1.length sc)) HF1.o.u rfl rfl slInfo rfl ?_)
  intro w2 hB2 hX2;have HF2:=aB (HF1.o.but hB2 hX2);have HRD2:=aB (HRD1.o.keep (Nat.le_of_eq hB2.size.symm) (fun _ h=>h) fun b (h:_<=b) _=>hB2.same b (by omega));have hsz2:W.heap.size+4<=w2.heap.size:=(by rw[hB2.size];exact hsz1);clear x0 x1 x2 x3 x4 x5 x6 x7 xf hB2 hX2 HF1 HRD1 hsz1;obtain⟨x0,x1,x2,x3,x4,x5,x6,x7⟩:=cells_x HF2.o.x;obtain⟨u0,u1,u2,u3,u4,u5,u6,u7,u8⟩:=nine HF2.o.u;have xf:=cK HF2.o.f;go_wp2_with fail;refine(HFN.o _ HF2.o.bl (.slice a args.length cap) ⟨_,_,_,rfl⟩).mono ?_;rintro e w3 ⟨rfl,hb3⟩;have HF3:=aB (HF2.o.call hb3);have HRD3:=aB (HRD2.o.bl hb3);clear x0 x1 x2 x3 x4 x5 x6 x7 u0 u1 u2 u3 u4 u5 u6 u7 u8 xf hb3 HF2 HRD2 HFN;go_wp2_with (refine bA (g:=W.heap.size+3) (i:=5) rfl rfl rfl rfl (unC9 2 0 v1 v2 v3 i o [] (.slice sa l1.length sc)) HF3.o.u rfl rfl inInfo rfl ?_)
  intro w4 hB4 hX4;have HF4:=aB (HF3.o.but hB4 hX4);have HRD4:=aB (HRD3.o.keep (Nat.le_of_eq hB4.size.symm) (fun _ h=>h) fun b (h:_<=b) _=>hB4.same b (by omega));clear hB4 hX4 HF3 HRD3;obtain⟨fb,fo,rfl,-,hfl,h3⟩:=HCS.o;obtain⟨-,-,E2⟩:=threeF h3;simp only at E2;obtain⟨u0,u1,u2,u3,u4,u5,u6,u7,u8⟩:=nine HF4.o.u;have xf:=cK HF4.o.f;have xt:=Bl.cell HF4.o.bl E2;clear E2 h3;go_wp2_with (refine bA (g:=W.heap.size+3) (i:=1) rfl rfl rfl rfl (unC9 2 ft v1 v2 v3 i o [] (.slice sa l1.length sc)) HF4.o.u rfl rfl tyInfo1 rfl ?_)
  intro w6 hB6 hX6;have HF6:=aB (HF4.o.but hB6 hX6);have HRD6:=aB (HRD4.o.keep (Nat.le_of_eq hB6.size.symm) (fun _ h=>h) fun b (h:_<=b) _=>hB6.same b (by omega));clear hB6 hX6 HF4 HRD4 u0 u1 u2 u3 u4 u5 u6 u7 u8 xf xt;obtain⟨u0,u1,u2,u3,u4,u5,u6,u7,u8⟩:=nine HF6.o.u;go_wp2_with fail;refine(HTY.o _ _ (HF6.o).bl (HRD6.o)).mono ?_;rintro e w5 ⟨rfl,hb5⟩;have HF5:=aB ((HF6.o).call hb5);have HRD5:=aB ((HRD6.o).bl hb5);clear hb5 u0 u1 u2 u3 u4 u5 u6 u7 u8;go_wp2_with (refine bA (g:=W.heap.size+2) (i:=0) rfl rfl rfl rfl (unC9 (2) (ft) v1 v2 v3 (i) o ([]) (.slice sa l1.length sc)) HF5.o.r rfl rfl bdInfo rfl ?_)
  intro w9 hB9 hX9;have HRD9:=aB (HRD5.o.keep (r:=fun b=>W.heap.size<=b) (Nat.le_of_eq hB9.size.symm) (fun b (h:_<=b)=>by omega) fun b (h:_<=b) _=>hB9.same b (by omega));have HB9:=aB (hB9.bl HF5.o.bl (by omega));go_wp2;exact bodyPost_ret (v:=BdV (2) (ft) (v1,v2,v3) (i) o ([]) (.slice sa l1.length sc)) (results_cell_row (p:=4) (ty:=30) rfl _ _ (W.heap.size+2) 30 _ (0,0) _ rfl hX9 Tryz.underlying30 rfl bdInfo) rfl ⟨.inl ⟨rfl,_,rfl,_,rfl,HRD9.o⟩,HB9.o⟩
end
section
theorem bbound_oth{fs:List Fd}{k v1 v2:Int}{v3 t n:List UInt8}{o:Int}{args:List Ex}{l1:List Bd}(hk:k=1\/k=3\/k=4)(hok:seqD (args.map (bindD fs))=(l1,0))(hp:partssD l1<=999999)(W:World)(fa:Option Addr)(fc:Nat)(s:Value)(hs:∃a c,s= .slice a args.length c)
  (hargs:∀W',Bl W W'->∀bx,W'.heap[bx]?=some (.cells #[.slice fa fs.length fc] 43 (0,0))->Calls Tryz.prog 53 #[s,.func (.func 54) #[] #[.pointer (some ⟨bx,0,none⟩)]] W' (OwnD W'.heap.size (l1,0) W')):
  Calls Tryz.prog 34 #[.slice fa fs.length fc,EV k (v1,v2,v3) t n o s] W (BndP (bindD fs (.mk k (v1,v2,v3) t n o args)) W):=by
 have hb:=bind_oth (fs:=fs) (k:=k) (v:=(v1,v2,v3)) (t:=t) (n:=n) (o:=o) (args:=args) (by rw[hok]) (by omega) (fun h=>by omega) [] (by rw[if_neg (by omega)]);rw[hok] at hb;rw[hb];have HTY:Hid (∀W' sv,Bl W W'->ReadsDL (fun b=>W.heap.size+4<=b) W' sv l1->Calls Tryz.prog 56 #[BdV k 0 (v1,v2,v3) 0 o [] sv] W' fun e w'=>e=(if(kindR (.mk k 0 (v1,v2,v3) 0 o [] l1)).2=0 then .returned (BdV k (kindR (.mk k 0 (v1,v2,v3) 0 o [] l1)).1 (v1,v2,v3) 0 o [] sv) else panE (kindR (.mk k 0 (v1,v2,v3) 0 o [] l1)).2)/\Bl W' w'):=fun W' sv _ hrl=>
  butyped_any (.mk k 0 (v1,v2,v3) 0 o [] l1) (by simp only[Bd.k];omega) (by simp only[partsD];omega) W' sv (hrl.keep (aH _) (fun _ _=>trivial) fun _ _ _=>rfl)
 generalize (kindR (.mk k 0 (v1,v2,v3) 0 o [] l1)).1=ty at *;generalize (kindR (.mk k 0 (v1,v2,v3) 0 o [] l1)).2=c at *;have g2:(k==2)=false:=(by simpa using(show ¬k=2 by omega));have g5:(k==5)=false:=(by simpa using(show ¬k=5 by omega));clear hb hk hp hok;by_cases hc:c=0
 ·rw[if_pos hc];obtain⟨a,cap,rfl⟩:=hs;have HARGS:Hid (∀W',Bl W W'->∀bx,W'.heap[bx]?=some (.cells #[.slice fa fs.length fc] 43 (0,0))->Calls Tryz.prog 53 #[.slice a args.length cap,.func (.func 54) #[] #[.pointer (some ⟨bx,0,none⟩)]] W' (OwnD W'.heap.size (l1,0) W')):=hargs;have HF0:=aB (BoF.start (.slice fa fs.length fc) (exC8 (k) v1 v2 v3 t n o (.slice a args.length cap)) (unC9 (k) 0 v1 v2 v3 0 o [] (.slice none 0 0)) W);have HZ0:Hid (∀c:List Value,((((W.alloc (.cells #[.slice fa fs.length fc] 43)).alloc (.cells (exC8 (k) v1 v2 v3 t n o (.slice a args.length cap)).toArray 47)).alloc (.cells (cellsB 0 0 0 0 [] 0 0 [] (.slice none 0 0)) 30)).alloc (.cells c.toArray 73)).heap.size=W.heap.size+4):=fun c=>(by simp);clear hargs;go_enter Tryz.func34,Tryz.ntmps34;go_wp2_with fail;refine(HARGS.o _ HF0.o.bl W.heap.size HF0.o.f).mono ?_;rintro e w1 ⟨⟨-,v',rfl,hrd⟩|⟨hc0,-⟩,hb1⟩;rotate_left
  ·exact absurd rfl hc0
  rw[HZ0.o] at hrd;have HF1:=aB (HF0.o.call hb1);obtain⟨sa,sc,rfl,-⟩:=id hrd.shape;have HRD1:=aB hrd;have hsz1:W.heap.size+4<=w1.heap.size:=(by have:=hb1.size;rw[HZ0.o] at this;exact this);obtain⟨x0,x1,x2,x3,x4,x5,x6,x7⟩:=cells_x HF1.o.x;have xf:=cK HF1.o.f;clear hb1 hrd HARGS HF0 HZ0;go_wp2_with (refine bA (g:=W.heap.size+3) (i:=8) rfl rfl rfl rfl (unC9 (k) 0 v1 v2 v3 0 o [] (.slice sa l1.length sc)) HF1.o.u rfl rfl slInfo rfl ?_)
  intro w2 hB2 hX2;have HF2:=aB (HF1.o.but hB2 hX2);have HRD2:=aB (HRD1.o.keep (Nat.le_of_eq hB2.size.symm) (fun _ h=>h) fun b (h:_<=b) _=>hB2.same b (by omega));have hsz2:W.heap.size+4<=w2.heap.size:=(by rw[hB2.size];exact hsz1);clear x0 x1 x2 x3 x4 x5 x6 x7 xf hB2 hX2 HF1 HRD1 hsz1;obtain⟨x0,x1,x2,x3,x4,x5,x6,x7⟩:=cells_x HF2.o.x;obtain⟨u0,u1,u2,u3,u4,u5,u6,u7,u8⟩:=nine HF2.o.u;have xf:=cK HF2.o.f;have HTY2:Hid (∀W' sv,Bl W W'->ReadsDL (fun b=>W.heap.size+4<=b) W' sv l1->Calls Tryz.prog 56 #[BdV (k) 0 (v1,v2,v3) 0 o ([]) sv] W' fun e w'=>e= .returned (BdV (k) ty (v1,v2,v3) 0 o ([]) sv)/\Bl W' w'):=fun W' sv hb hr=>(HTY.o W' sv hb hr).mono fun e w' h=>⟨by rw[h.1,if_pos hc],h.2⟩
  have HTY:=HTY2;clear hc;go_wp2_with fail;refine(HTY.o _ _ (HF2.o).bl (HRD2.o)).mono ?_;rintro e w5 ⟨rfl,hb5⟩;have HF5:=aB ((HF2.o).call hb5);have HRD5:=aB ((HRD2.o).bl hb5);clear hb5 u0 u1 u2 u3 u4 u5 u6 u7 u8;go_wp2_with (refine bA (g:=W.heap.size+2) (i:=0) rfl rfl rfl rfl (unC9 ((k)) (ty) v1 v2 v3 (0) o (([])) (.slice sa l1.length sc)) HF5.o.r rfl rfl bdInfo rfl ?_)
  intro w9 hB9 hX9;have HRD9:=aB (HRD5.o.keep (r:=fun b=>W.heap.size<=b) (Nat.le_of_eq hB9.size.symm) (fun b (h:_<=b)=>by omega) fun b (h:_<=b) _=>hB9.same b (by omega));have HB9:=aB (hB9.bl HF5.o.bl (by omega));go_wp2;exact bodyPost_ret (v:=BdV ((k)) (ty) (v1,v2,v3) (0) o (([])) (.slice sa l1.length sc)) (results_cell_row (p:=4) (ty:=30) rfl _ _ (W.heap.size+2) 30 _ (0,0) _ rfl hX9 Tryz.underlying30 rfl bdInfo) rfl ⟨.inl ⟨rfl,_,rfl,_,rfl,HRD9.o⟩,HB9.o⟩
 ·rw[if_neg hc];obtain⟨a,cap,rfl⟩:=hs;have HARGS:Hid (∀W',Bl W W'->∀bx,W'.heap[bx]?=some (.cells #[.slice fa fs.length fc] 43 (0,0))->Calls Tryz.prog 53 #[.slice a args.length cap,.func (.func 54) #[] #[.pointer (some ⟨bx,0,none⟩)]] W' (OwnD W'.heap.size (l1,0) W')):=hargs;have HF0:=aB (BoF.start (.slice fa fs.length fc) (exC8 (k) v1 v2 v3 t n o (.slice a args.length cap)) (unC9 (k) 0 v1 v2 v3 0 o [] (.slice none 0 0)) W);have HZ0:Hid (∀c:List Value,((((W.alloc (.cells #[.slice fa fs.length fc] 43)).alloc (.cells (exC8 (k) v1 v2 v3 t n o (.slice a args.length cap)).toArray 47)).alloc (.cells (cellsB 0 0 0 0 [] 0 0 [] (.slice none 0 0)) 30)).alloc (.cells c.toArray 73)).heap.size=W.heap.size+4):=fun c=>(by simp);clear hargs;go_enter Tryz.func34,Tryz.ntmps34;go_wp2_with fail;refine(HARGS.o _ HF0.o.bl W.heap.size HF0.o.f).mono ?_;rintro e w1 ⟨⟨-,v',rfl,hrd⟩|⟨hc0,-⟩,hb1⟩;rotate_left
  ·exact absurd rfl hc0
  rw[HZ0.o] at hrd;have HF1:=aB (HF0.o.call hb1);obtain⟨sa,sc,rfl,-⟩:=id hrd.shape;have HRD1:=aB hrd;have hsz1:W.heap.size+4<=w1.heap.size:=(by have:=hb1.size;rw[HZ0.o] at this;exact this);obtain⟨x0,x1,x2,x3,x4,x5,x6,x7⟩:=cells_x HF1.o.x;have xf:=cK HF1.o.f;clear hb1 hrd HARGS HF0 HZ0;go_wp2_with (refine bA (g:=W.heap.size+3) (i:=8) rfl rfl rfl rfl (unC9 (k) 0 v1 v2 v3 0 o [] (.slice sa l1.length sc)) HF1.o.u rfl rfl slInfo rfl ?_)
  intro w2 hB2 hX2;have HF2:=aB (HF1.o.but hB2 hX2);have HRD2:=aB (HRD1.o.keep (Nat.le_of_eq hB2.size.symm) (fun _ h=>h) fun b (h:_<=b) _=>hB2.same b (by omega));have hsz2:W.heap.size+4<=w2.heap.size:=(by rw[hB2.size];exact hsz1);clear x0 x1 x2 x3 x4 x5 x6 x7 xf hB2 hX2 HF1 HRD1 hsz1;obtain⟨x0,x1,x2,x3,x4,x5,x6,x7⟩:=cells_x HF2.o.x;obtain⟨u0,u1,u2,u3,u4,u5,u6,u7,u8⟩:=nine HF2.o.u;have xf:=cK HF2.o.f;have HC:=aB hc;have HTY2:Hid (∀W' sv,Bl W W'->ReadsDL (fun b=>W.heap.size+4<=b) W' sv l1->Calls Tryz.prog 56 #[BdV (k) 0 (v1,v2,v3) 0 o ([]) sv] W' fun e w'=>e=panE c/\Bl W' w'):=fun W' sv hb hr=>(HTY.o W' sv hb hr).mono fun e w' h=>⟨by rw[h.1,if_neg hc],h.2⟩
  clear hc HTY;go_wp2_with fail;refine(HTY2.o _ _ (HF2.o).bl (HRD2.o)).mono ?_;rintro e w5 ⟨rfl,hb5⟩;go_wp2;exact⟨rfl,.inr ⟨HC.o,rfl⟩,(HF2.o).bl.call hb5⟩
theorem bbound_sum{fs:List Fd}{v1 v2:Int}{v3 t n:List UInt8}{o:Int}{args:List Ex}{l1:List Bd}(h5:l1.length<=1)(hok:seqD (args.map (bindD fs))=(l1,0))(hp:partssD l1<=999999)(W:World)(fa:Option Addr)(fc:Nat)(s:Value)(hs:∃a c,s= .slice a args.length c)
  (hargs:∀W',Bl W W'->∀bx,W'.heap[bx]?=some (.cells #[.slice fa fs.length fc] 43 (0,0))->Calls Tryz.prog 53 #[s,.func (.func 54) #[] #[.pointer (some ⟨bx,0,none⟩)]] W' (OwnD W'.heap.size (l1,0) W')):
  Calls Tryz.prog 34 #[.slice fa fs.length fc,EV 5 (v1,v2,v3) t n o s] W (BndP (bindD fs (.mk 5 (v1,v2,v3) t n o args)) W):=by
 have hb:=bind_oth (fs:=fs) (k:=5) (v:=(v1,v2,v3)) (t:=t) (n:=n) (o:=o) (args:=args) (by rw[hok]) (by omega) (fun h=>by rw[hok];exact h5) n (by rw[if_pos rfl]);rw[hok] at hb;rw[hb];have HTY:Hid (∀W' sv,Bl W W'->ReadsDL (fun b=>W.heap.size+4<=b) W' sv l1->Calls Tryz.prog 56 #[BdV 5 0 (v1,v2,v3) 0 o n sv] W' fun e w'=>e=(if(kindR (.mk 5 0 (v1,v2,v3) 0 o n l1)).2=0 then .returned (BdV 5 (kindR (.mk 5 0 (v1,v2,v3) 0 o n l1)).1 (v1,v2,v3) 0 o n sv) else panE (kindR (.mk 5 0 (v1,v2,v3) 0 o n l1)).2)/\Bl W' w'):=fun W' sv _ hrl=>
  butyped_any (.mk 5 0 (v1,v2,v3) 0 o n l1) (by simp only[Bd.k];omega) (by simp only[partsD];omega) W' sv (hrl.keep (aH _) (fun _ _=>trivial) fun _ _ _=>rfl)
 generalize (kindR (.mk 5 0 (v1,v2,v3) 0 o n l1)).1=ty at *;generalize (kindR (.mk 5 0 (v1,v2,v3) 0 o n l1)).2=c at *;clear hb hp hok h5;by_cases hc:c=0
 ·rw[if_pos hc];obtain⟨a,cap,rfl⟩:=hs;have HARGS:Hid (∀W',Bl W W'->∀bx,W'.heap[bx]?=some (.cells #[.slice fa fs.length fc] 43 (0,0))->Calls Tryz.prog 53 #[.slice a args.length cap,.func (.func 54) #[] #[.pointer (some ⟨bx,0,none⟩)]] W' (OwnD W'.heap.size (l1,0) W')):=hargs;have HF0:=aB (BoF.start (.slice fa fs.length fc) (exC8 (5) v1 v2 v3 t n o (.slice a args.length cap)) (unC9 (5) 0 v1 v2 v3 0 o [] (.slice none 0 0)) W);have HZ0:Hid (∀c:List Value,((((W.alloc (.cells #[.slice fa fs.length fc] 43)).alloc (.cells (exC8 (5) v1 v2 v3 t n o (.slice a args.length cap)).toArray 47)).alloc (.cells (cellsB 0 0 0 0 [] 0 0 [] (.slice none 0 0)) 30)).alloc (.cells c.toArray 73)).heap.size=W.heap.size+4):=fun c=>(by simp);clear hargs;go_enter Tryz.func34,Tryz.ntmps34;go_wp2_with fail;refine(HARGS.o _ HF0.o.bl W.heap.size HF0.o.f).mono ?_;rintro e w1 ⟨⟨-,v',rfl,hrd⟩|⟨hc0,-⟩,hb1⟩;rotate_left
  ·exact absurd rfl hc0
  rw[HZ0.o] at hrd;have HF1:=aB (HF0.o.call hb1);obtain⟨sa,sc,rfl,-⟩:=id hrd.shape;have HRD1:=aB hrd;have hsz1:W.heap.size+4<=w1.heap.size:=(by have:=hb1.size;rw[HZ0.o] at this;exact this);obtain⟨x0,x1,x2,x3,x4,x5,x6,x7⟩:=cells_x HF1.o.x;have xf:=cK HF1.o.f;clear hb1 hrd HARGS HF0 HZ0;go_wp2_with (refine bA (g:=W.heap.size+3) (i:=8) rfl rfl rfl rfl (unC9 (5) 0 v1 v2 v3 0 o [] (.slice sa l1.length sc)) HF1.o.u rfl rfl slInfo rfl ?_)
  intro w2 hB2 hX2;have HF2:=aB (HF1.o.but hB2 hX2);have HRD2:=aB (HRD1.o.keep (Nat.le_of_eq hB2.size.symm) (fun _ h=>h) fun b (h:_<=b) _=>hB2.same b (by omega));have hsz2:W.heap.size+4<=w2.heap.size:=(by rw[hB2.size];exact hsz1);clear x0 x1 x2 x3 x4 x5 x6 x7 xf hB2 hX2 HF1 HRD1 hsz1;obtain⟨x0,x1,x2,x3,x4,x5,x6,x7⟩:=cells_x HF2.o.x;obtain⟨u0,u1,u2,u3,u4,u5,u6,u7,u8⟩:=nine HF2.o.u;have xf:=cK HF2.o.f;go_wp2_with (refine bA (g:=W.heap.size+3) (i:=7) rfl rfl rfl rfl (unC9 5 0 v1 v2 v3 0 o n (.slice sa l1.length sc)) HF2.o.u rfl rfl d2j rfl ?_)
  intro w4 hB4 hX4;have HF4:=aB (HF2.o.but hB4 hX4);have HRD4:=aB (HRD2.o.keep (Nat.le_of_eq hB4.size.symm) (fun _ h=>h) fun b (h:_<=b) _=>hB4.same b (by omega));clear hB4 hX4 HF2 HRD2 u0 u1 u2 u3 u4 u5 u6 u7 u8 x0 x1 x2 x3 x4 x5 x6 x7 xf;obtain⟨u0,u1,u2,u3,u4,u5,u6,u7,u8⟩:=nine HF4.o.u;have HTY2:Hid (∀W' sv,Bl W W'->ReadsDL (fun b=>W.heap.size+4<=b) W' sv l1->Calls Tryz.prog 56 #[BdV (5) 0 (v1,v2,v3) 0 o (n) sv] W' fun e w'=>e= .returned (BdV (5) ty (v1,v2,v3) 0 o (n) sv)/\Bl W' w'):=fun W' sv hb hr=>(HTY.o W' sv hb hr).mono fun e w' h=>⟨by rw[h.1,if_pos hc],h.2⟩
  have HTY:=HTY2;clear hc;go_wp2_with fail;refine(HTY.o _ _ (HF4.o).bl (HRD4.o)).mono ?_;rintro e w5 ⟨rfl,hb5⟩;have HF5:=aB ((HF4.o).call hb5);have HRD5:=aB ((HRD4.o).bl hb5);clear hb5 u0 u1 u2 u3 u4 u5 u6 u7 u8;go_wp2_with (refine bA (g:=W.heap.size+2) (i:=0) rfl rfl rfl rfl (unC9 ((5)) (ty) v1 v2 v3 (0) o ((n)) (.slice sa l1.length sc)) HF5.o.r rfl rfl bdInfo rfl ?_)
  intro w9 hB9 hX9;have HRD9:=aB (HRD5.o.keep (r:=fun b=>W.heap.size<=b) (Nat.le_of_eq hB9.size.symm) (fun b (h:_<=b)=>by omega) fun b (h:_<=b) _=>hB9.same b (by omega));have HB9:=aB (hB9.bl HF5.o.bl (by omega));go_wp2;exact bodyPost_ret (v:=BdV ((5)) (ty) (v1,v2,v3) (0) o ((n)) (.slice sa l1.length sc)) (results_cell_row (p:=4) (ty:=30) rfl _ _ (W.heap.size+2) 30 _ (0,0) _ rfl hX9 Tryz.underlying30 rfl bdInfo) rfl ⟨.inl ⟨rfl,_,rfl,_,rfl,HRD9.o⟩,HB9.o⟩
 ·rw[if_neg hc];obtain⟨a,cap,rfl⟩:=hs;have HARGS:Hid (∀W',Bl W W'->∀bx,W'.heap[bx]?=some (.cells #[.slice fa fs.length fc] 43 (0,0))->Calls Tryz.prog 53 #[.slice a args.length cap,.func (.func 54) #[] #[.pointer (some ⟨bx,0,none⟩)]] W' (OwnD W'.heap.size (l1,0) W')):=hargs;have HF0:=aB (BoF.start (.slice fa fs.length fc) (exC8 (5) v1 v2 v3 t n o (.slice a args.length cap)) (unC9 (5) 0 v1 v2 v3 0 o [] (.slice none 0 0)) W);have HZ0:Hid (∀c:List Value,((((W.alloc (.cells #[.slice fa fs.length fc] 43)).alloc (.cells (exC8 (5) v1 v2 v3 t n o (.slice a args.length cap)).toArray 47)).alloc (.cells (cellsB 0 0 0 0 [] 0 0 [] (.slice none 0 0)) 30)).alloc (.cells c.toArray 73)).heap.size=W.heap.size+4):=fun c=>(by simp);clear hargs;go_enter Tryz.func34,Tryz.ntmps34;go_wp2_with fail;refine(HARGS.o _ HF0.o.bl W.heap.size HF0.o.f).mono ?_;rintro e w1 ⟨⟨-,v',rfl,hrd⟩|⟨hc0,-⟩,hb1⟩;rotate_left
  ·exact absurd rfl hc0
  rw[HZ0.o] at hrd;have HF1:=aB (HF0.o.call hb1);obtain⟨sa,sc,rfl,-⟩:=id hrd.shape;have HRD1:=aB hrd;have hsz1:W.heap.size+4<=w1.heap.size:=(by have:=hb1.size;rw[HZ0.o] at this;exact this);obtain⟨x0,x1,x2,x3,x4,x5,x6,x7⟩:=cells_x HF1.o.x;have xf:=cK HF1.o.f;clear hb1 hrd HARGS HF0 HZ0;go_wp2_with (refine bA (g:=W.heap.size+3) (i:=8) rfl rfl rfl rfl (unC9 (5) 0 v1 v2 v3 0 o [] (.slice sa l1.length sc)) HF1.o.u rfl rfl slInfo rfl ?_)
  intro w2 hB2 hX2;have HF2:=aB (HF1.o.but hB2 hX2);have HRD2:=aB (HRD1.o.keep (Nat.le_of_eq hB2.size.symm) (fun _ h=>h) fun b (h:_<=b) _=>hB2.same b (by omega));have hsz2:W.heap.size+4<=w2.heap.size:=(by rw[hB2.size];exact hsz1);clear x0 x1 x2 x3 x4 x5 x6 x7 xf hB2 hX2 HF1 HRD1 hsz1;obtain⟨x0,x1,x2,x3,x4,x5,x6,x7⟩:=cells_x HF2.o.x;obtain⟨u0,u1,u2,u3,u4,u5,u6,u7,u8⟩:=nine HF2.o.u;have xf:=cK HF2.o.f;go_wp2_with (refine bA (g:=W.heap.size+3) (i:=7) rfl rfl rfl rfl (unC9 5 0 v1 v2 v3 0 o n (.slice sa l1.length sc)) HF2.o.u rfl rfl d2j rfl ?_)
  intro w4 hB4 hX4;have HF4:=aB (HF2.o.but hB4 hX4);have HRD4:=aB (HRD2.o.keep (Nat.le_of_eq hB4.size.symm) (fun _ h=>h) fun b (h:_<=b) _=>hB4.same b (by omega));clear hB4 hX4 HF2 HRD2 u0 u1 u2 u3 u4 u5 u6 u7 u8 x0 x1 x2 x3 x4 x5 x6 x7 xf;obtain⟨u0,u1,u2,u3,u4,u5,u6,u7,u8⟩:=nine HF4.o.u;have HC:=aB hc;have HTY2:Hid (∀W' sv,Bl W W'->ReadsDL (fun b=>W.heap.size+4<=b) W' sv l1->Calls Tryz.prog 56 #[BdV (5) 0 (v1,v2,v3) 0 o (n) sv] W' fun e w'=>e=panE c/\Bl W' w'):=fun W' sv hb hr=>(HTY.o W' sv hb hr).mono fun e w' h=>⟨by rw[h.1,if_neg hc],h.2⟩
  clear hc HTY;go_wp2_with fail;refine(HTY2.o _ _ (HF4.o).bl (HRD4.o)).mono ?_;rintro e w5 ⟨rfl,hb5⟩;go_wp2;exact⟨rfl,.inr ⟨HC.o,rfl⟩,(HF4.o).bl.call hb5⟩
end
section
theorem bind_zero{fs:List Fd}{x:Ex}(h:(bindD fs x).2≠0):(bindD fs x).1=zeroD:=by
 obtain⟨k,v,t,n,o,args⟩:=x;simp only[bindD] at h⊢
 repeat' split
 all_goals first
  |rfl
  |(exfalso;revert h;simp_all)
theorem bbound_any{fs:List Fd}(hfs:fs.length<=1000000)(fa:Option Addr)(fc:Nat)(hfc:fs.length<=fc):∀(N:Nat) (x:Ex),fC x<=N->N<=999999->eH x=true->∀(W:World) (v:Value),eO W x v->ReadsFd (fun _=>True) W (.slice fa fs.length fc) fs->Calls Tryz.prog 34 #[.slice fa fs.length fc,v] W (BndP (bindD fs x) W)
 |0,x,hx,_,_,_,_,_,_=>by have:=oM x;omega
 |N+1,x,hx,hN,hck,W,v,hv,hfd=>by
  obtain⟨sl,rfl,hR⟩:=hv;obtain⟨a,cap,rfl,-⟩:=hR.shape;have hkd:=check_kinds hck;have hca:=(a0u hck).2;obtain⟨k,⟨v1,v2,v3⟩,t,n,o,args⟩:=x;simp only[Ex.k,Ex.t,Ex.v,Ex.o,Ex.n,Ex.args] at *;have hpm:∀y∈args,fC y<=fF args:=fun y hy=>by
   clear hx hck hkd hca hR
   induction args with
   |nil=>cases hy
   |cons z r ih=>
    simp only[fF];rcases dD.1 hy with rfl|hy
    ·omega
    ·have:=ih hy;omega
  simp only[fC] at hx;have hfew:args.length<=1000000:=by
   have:args.length<=fF args:=by
    clear hx hck hkd hca hR hpm
    induction args with
    |nil=>simp
    |cons z r ih=>
     have:=oM z;simp only[fF,aX];omega
   omega
  have hargs:∀W',Bl W W'->∀bx,W'.heap[bx]?=some (.cells #[.slice fa fs.length fc] 43 (0,0))->Calls Tryz.prog 53 #[.slice a args.length cap,.func (.func 54) #[] #[.pointer (some ⟨bx,0,none⟩)]] W' (OwnD W'.heap.size (seqD (args.map (bindD fs))) W'):=fun W' hb bx hbx=>
   bsomeX_any (f:=bindD fs) hfew W' (hR.bl hb) enters_bbound1 fun y hy W2 v2 hb2 hv2=>bbound1_any (fv:= .slice fa fs.length fc) ⟨_,_,_,rfl⟩ (by rw[aG (keep_b hbx hb2)];rfl) v2 hv2 fun W3 v3 hb3 hv3=>
    bbound_any hfs fa fc hfc N y (by have:=hpm y hy;omega) (by omega) (hca y hy) W3 v3 hv3 (hfd.bl (hb.call (hb2.call hb3)))
  by_cases hbad:(seqD (args.map (bindD fs))).2=0
  case neg=>exact bbound_bad hbad W fa fc _ ⟨_,_,rfl⟩ hargs
  obtain⟨l1,hl1⟩:∃l1,(seqD (args.map (bindD fs))).1=l1:=⟨_,rfl⟩
  have hok:seqD (args.map (bindD fs))=(l1,0):=(by rw[<-hl1,<-hbad]);have hpp:=binds_parts fs args;rw[binds_seq,hok] at hpp;have hlen:=seqD_len (args.map (bindD fs));rw[hok,mD] at hlen;rw[hok] at hargs;simp only at hpp hlen;have hk:k=1\/k=2\/k=3\/k=4\/k=5:=(by omega);rcases hk with rfl|rfl|rfl|rfl|rfl
  ·exact bbound_oth (.inl rfl) hok (by omega) W fa fc _ ⟨_,_,rfl⟩ hargs
  ·exact bbound_col hok (by omega) hfs W fa fc hfc hfd _ ⟨_,_,rfl⟩ hargs
  ·exact bbound_oth (.inr (.inl rfl)) hok (by omega) W fa fc _ ⟨_,_,rfl⟩ hargs
  ·exact bbound_oth (.inr (.inr rfl)) hok (by omega) W fa fc _ ⟨_,_,rfl⟩ hargs
  ·exact bbound_sum (by have:=hkd.2 rfl;omega) hok (by omega) W fa fc _ ⟨_,_,rfl⟩ hargs
def badF(f:Fd):Bool:=decide (f.t<1)||decide (4<f.t)
theorem fields_zero{fs:List Fd}:fieldsB fs=if 160<fs.length then 3 else if fs.any badF then 2 else 0:=rfl
structure BiF(c:List Value)(W A:World):Prop where
 x:A.heap[W.heap.size]?=some (.cells c.toArray 47 (0,0))
 v:A.heap[W.heap.size+1]?=some (.cells (cellsB 0 0 0 0 [] 0 0 [] (.slice none 0 0)) 30 (0,0))
 e:A.heap[W.heap.size+2]?=some (.cells #[.int .i64 0] 37 (0,0))
 bl:Bl W A
theorem BiF.call{c:List Value}{W A B:World}(h:BiF c W A)(hb:Bl A B):BiF c W B:=⟨keep_b h.x hb,keep_b h.v hb,keep_b h.e hb,h.bl.call hb⟩
theorem BiF.start(c:List Value)(W:World):BiF c W (((W.alloc (.cells c.toArray 47)).alloc (.cells (cellsB 0 0 0 0 [] 0 0 [] (.slice none 0 0)) 30)).alloc (.cells #[.int .i64 0] 37)):=
 ⟨keep_b (keep_b (aN W _) ((Bl.refl _).alloc _)) ((Bl.refl _).alloc _),keep_b (aV _ _ (by simp)) ((Bl.refl _).alloc _),aV _ _ (by simp),(((Bl.refl W).alloc _).alloc _).alloc _⟩
theorem bBind2_any(y:Fd)(W:World):Calls Tryz.prog 32 #[FdV y] W fun e w'=>e= .returned (.bool (badF y))/\Bl W w':=by
 obtain⟨y1,y2,y3⟩:=y;unfold badF;by_cases h1:y3<1
 ·have e:(decide (y3<1)||decide (4<y3))=true:=by simp[h1]
  rw[e];clear e;go_enter Tryz.func32,Tryz.ntmps32;go_wp2;go_ret;exact⟨rfl,(Bl.refl W).alloc _⟩
 ·by_cases h4:4<y3
  ·have e:(decide (y3<1)||decide (4<y3))=true:=by simp[h4]
   rw[e];clear e;go_enter Tryz.func32,Tryz.ntmps32;go_wp2;go_ret;exact⟨rfl,(Bl.refl W).alloc _⟩
  ·have e:(decide (y3<1)||decide (4<y3))=false:=by simp[h1,h4]
   rw[e];clear e;go_enter Tryz.func32,Tryz.ntmps32;go_wp2;go_ret;exact⟨rfl,(Bl.refl W).alloc _⟩
theorem enters_bBind2(args:Array Value)(w:World):(callFunc 32 args).run Tryz.prog w= .ok (.enter 32 args) w:=by simp[go_sem]
theorem bBind1_any(b:Nat)(cs:List Value)(hcs:cs.length=9)(w:World)(h:w.heap[b]?=some (.cells cs.toArray 30 (0,0))):Calls Tryz.prog 30 #[.pointer (some ⟨b,0,none⟩)] w fun e w'=>e= .returned (.tuple #[])/\(But b w w'/\w'.heap[b]?=some (.cells (cellsB 0 0 0 0 [] 0 0 [] (.slice none 0 0)) 30 (0,0))):=by
 obtain⟨c0,c1,c2,c3,c4,c5,c6,c7,c8,rfl⟩:∃c0 c1 c2 c3 c4 c5 c6 c7 c8,cs=[c0,c1,c2,c3,c4,c5,c6,c7,c8]:=by
  match cs,hcs with
  |[c0,c1,c2,c3,c4,c5,c6,c7,c8],_=>exact⟨_,_,_,_,_,_,_,_,_,rfl⟩
 go_enter Tryz.func30,Tryz.ntmps30;go_wp2_with (refine bA (old:=[c0,c1,c2,c3,c4,c5,c6,c7,c8]) rfl rfl rfl rfl [.int .i64 0,.int .i64 0,.int .i64 0,.int .i64 0,S [],.int .i64 0,.int .i64 0,S [],.slice none 0 0] h rfl rfl bdInfo rfl ?_)
 intro w9 hB9 hX9;go_wp2;go_end0;exact⟨rfl,hB9,hX9⟩
theorem enters_bBind1(args:Array Value)(w:World):(callFunc 30 args).run Tryz.prog w= .ok (.enter 30 args) w:=by simp[go_sem]
def BindP(r:Bd×Int)(W:World)(e:Ending)(w':World):Prop:=
 (∃v,e= .returned (.tuple #[v,.int .i64 r.2])/\ReadsDP (fun b=>W.heap.size<=b) w' r.1 v)/\Bl W w'
theorem bBind_any(fs:List Fd)(hfs:fs.length<=1000000)(x:Ex)(hp:fC x<=999999)(hL:Lens x)(W:World)(hG:nD W)(fa:Option Addr)(fc:Nat)(hfc:fs.length<=fc)(v:Value)(hv:eO W x v)(hfd:ReadsFd (fun _=>True) W (.slice fa fs.length fc) fs):
  Calls Tryz.prog 12 #[.slice fa fs.length fc,v] W (BindP (bindQ fs x) W):=by
 obtain⟨Z,HZ⟩:∃Z,Hid (bindQ fs x=Z):=⟨_,rfl⟩
 rw[HZ.o];have HCT:Hid (∀W',Bl W W'->Calls Tryz.prog 31 #[.slice fa fs.length fc,.func (.func 32) #[] #[]] W' fun e w'=>e= .returned (.bool (fs.any badF))/\Bl W' w'):=fun W' hb=>fContains0_any (_bx:=0) hfs enters_bBind2 (hfd.bl hb) fun y W2 _=>bBind2_any y W2;have HCK:Hid (∀W',Bl W W'->Calls Tryz.prog 33 #[v] W' fun e w'=>e= .returned (.int .i64 (ckN x))/\Bl W' w'):=fun W' hb=>yO 1000000 x (by omega) (aH _) hL W' v (hv.bl hb) (hG.bl hb);have HBD:Hid (eH x=true->∀W',Bl W W'->Calls Tryz.prog 34 #[.slice fa fs.length fc,v] W' (BndP (bindD fs x) W')):=fun h W' hb=>bbound_any hfs fa fc hfc _ x (aH _) hp h W' v (hv.bl hb) (hfd.bl hb);have HQ1:Hid (160<fs.length->Z=(zeroD,3)):=fun h=>(by rw[<-HZ.o];unfold bindQ;rw[fields_zero,if_pos h];rfl);have HQ2:Hid (¬160<fs.length->fs.any badF=true->Z=(zeroD,2)):=fun h h2=>(by rw[<-HZ.o];unfold bindQ;rw[fields_zero,if_neg h,if_pos h2];rfl);have HQ3:Hid (¬160<fs.length->fs.any badF=false->eH x=false->Z=(zeroD,2)):=fun h h2 h3=>(by rw[<-HZ.o];unfold bindQ;rw[fields_zero,if_neg h,if_neg (show ¬(fs.any badF=true) by rw[h2];decide),if_neg (show ¬((0:Int)≠0) by decide),if_pos h3]);have HQ4:Hid (¬160<fs.length->fs.any badF=false->eH x=true->Z=bindD fs x):=fun h h2 h3=>(by rw[<-HZ.o];unfold bindQ;rw[fields_zero,if_neg h,if_neg (show ¬(fs.any badF=true) by rw[h2];decide),if_neg (show ¬((0:Int)≠0) by decide),if_neg (by rw[h3];decide)]);have HBZ:=aB (fun h=>bind_zero (fs:=fs) (x:=x) h);obtain⟨sl,rfl,hR⟩:=hv;obtain⟨a,cap,rfl,-⟩:=hR.shape;unfold ckN at HCK;generalize eH x=ck at *;generalize fs.any badF=fb at *;generalize bindD fs x=R at *;clear hR hfd hG hL hp HZ hfs hfc;obtain⟨k,⟨v1,v2,v3⟩,t,n,o,args⟩:=x;simp only[Ex.k,Ex.t,Ex.v,Ex.o,Ex.n,Ex.args] at *;generalize args.length=m at *;generalize fs.length=q at *;have HF0:=aB (BiF.start (exC8 k v1 v2 v3 t n o (.slice a m cap)) W);by_cases h160:160<q
 ·have HZ:=aB (HQ1.o h160);have g1:¬(q:Int)<=160:=(by omega);clear HQ1 HQ2 HQ3 HQ4 HBD HCK HCT HBZ h160
  go_enter_defers Tryz.func12,Tryz.ntmps12
  go_wp2_with fail
  (with_reducible refine(bmust_no _ _).mono ?_)
  rintro e w2 ⟨rfl,rfl⟩;have c1:=cK (HF0.o).e;have z1:=aJ (HF0.o).e 0
  try unfold panE
  go_wp2_with fail;refine leaves_cons (f:=23) (args:= #[.pointer (some ⟨W.heap.size+2,0,none⟩),.func (.func 30) #[] #[.pointer (some ⟨W.heap.size+1,0,none⟩)]]) (by simp) (by simp[go_sem]) ?_;have h3:=bcaught_panic ⟨W.heap.size+2,0,none⟩ 0 (3) 30 #[] #[.pointer (some ⟨W.heap.size+1,0,none⟩)] #[.pointer (some ⟨W.heap.size+1,0,none⟩)] (by simp) _ _ c1 z1 enters_bBind1 (bBind1_any (W.heap.size+1) [.int .i64 0,.int .i64 0,.int .i64 0,.int .i64 0,S [],.int .i64 0,.int .i64 0,S [],.slice none 0 0] rfl _ (set1_other (HF0.o).v (b:=W.heap.size+2) (by omega) 0 (.int .i64 (3))));refine h3.mono ?_;rintro e u' w'' ⟨rfl,rfl,hB9,hX9⟩;obtain⟨r0,r1,r2,r3,r4,r5,r6,r7,r8⟩:=nine hX9;have r9:=cK ((hB9.same (W.heap.size+2) (by omega)).trans (lN (HF0.o).e 0 (.int .i64 (3))));refine⟨.tuple #[BdV 0 0 (0,0,[]) 0 0 [] (.slice none 0 0),.int .i64 (3)],by simp[results,Tryz.results12,go_sem,r0,r1,r2,r3,r4,r5,r6,r7,r8,r9],⟨_,by rw[HZ.o],by rw[HZ.o];exact zero_readsD _ _⟩,hB9.bl ((HF0.o).bl.set (p:=⟨W.heap.size+2,0,none⟩) (by show W.heap.size<=W.heap.size+2;omega) _) (by omega)⟩
 have g1:(q:Int)<=160:=(by omega);cases fb
 case true=>
  have HZ:=aB (HQ2.o h160 rfl);clear HQ1 HQ2 HQ3 HQ4 HBD HCK HBZ h160
  go_enter_defers Tryz.func12,Tryz.ntmps12
  go_wp2_with fail
  (with_reducible refine(bmust_yes _ _).mono ?_)
  rintro e w2 ⟨rfl,rfl⟩;go_wp2_with fail;refine(HCT.o _ HF0.o.bl).mono ?_;rintro e w3 ⟨rfl,hb3⟩;have HF3:=aB (HF0.o.call hb3);clear hb3;go_wp2_with fail
  (with_reducible refine(bmust_no _ _).mono ?_)
  rintro e w4 ⟨rfl,rfl⟩;have c1:=cK (HF3.o).e;have z1:=aJ (HF3.o).e 0
  try unfold panE
  go_wp2_with fail;refine leaves_cons (f:=23) (args:= #[.pointer (some ⟨W.heap.size+2,0,none⟩),.func (.func 30) #[] #[.pointer (some ⟨W.heap.size+1,0,none⟩)]]) (by simp) (by simp[go_sem]) ?_;have h3:=bcaught_panic ⟨W.heap.size+2,0,none⟩ 0 (2) 30 #[] #[.pointer (some ⟨W.heap.size+1,0,none⟩)] #[.pointer (some ⟨W.heap.size+1,0,none⟩)] (by simp) _ _ c1 z1 enters_bBind1 (bBind1_any (W.heap.size+1) [.int .i64 0,.int .i64 0,.int .i64 0,.int .i64 0,S [],.int .i64 0,.int .i64 0,S [],.slice none 0 0] rfl _ (set1_other (HF3.o).v (b:=W.heap.size+2) (by omega) 0 (.int .i64 (2))));refine h3.mono ?_;rintro e u' w'' ⟨rfl,rfl,hB9,hX9⟩;obtain⟨r0,r1,r2,r3,r4,r5,r6,r7,r8⟩:=nine hX9;have r9:=cK ((hB9.same (W.heap.size+2) (by omega)).trans (lN (HF3.o).e 0 (.int .i64 (2))));refine⟨.tuple #[BdV 0 0 (0,0,[]) 0 0 [] (.slice none 0 0),.int .i64 (2)],by simp[results,Tryz.results12,go_sem,r0,r1,r2,r3,r4,r5,r6,r7,r8,r9],⟨_,by rw[HZ.o],by rw[HZ.o];exact zero_readsD _ _⟩,hB9.bl ((HF3.o).bl.set (p:=⟨W.heap.size+2,0,none⟩) (by show W.heap.size<=W.heap.size+2;omega) _) (by omega)⟩
 cases ck
 ·have HZ:=aB (HQ3.o h160 rfl rfl);clear HQ1 HQ2 HQ3 HQ4 HBD HBZ h160
  go_enter_defers Tryz.func12,Tryz.ntmps12
  go_wp2_with fail
  (with_reducible refine(bmust_yes _ _).mono ?_)
  rintro e w2 ⟨rfl,rfl⟩;go_wp2_with fail;refine(HCT.o _ HF0.o.bl).mono ?_;rintro e w3 ⟨rfl,hb3⟩;have HF3:=aB (HF0.o.call hb3);clear hb3;go_wp2_with fail
  (with_reducible refine(bmust_yes _ _).mono ?_)
  rintro e w4 ⟨rfl,rfl⟩;obtain⟨x0,x1,x2,x3,x4,x5,x6,x7⟩:=cells_x HF3.o.x;go_wp2_with fail;refine(HCK.o _ HF3.o.bl).mono ?_;rintro e w5 ⟨rfl,hb5⟩;have HF5:=aB (HF3.o.call hb5);clear hb5 x0 x1 x2 x3 x4 x5 x6 x7;go_wp2_with fail
  (with_reducible refine(bmust_no _ _).mono ?_)
  rintro e w6 ⟨rfl,rfl⟩;have c1:=cK (HF5.o).e;have z1:=aJ (HF5.o).e 0
  try unfold panE
  go_wp2_with fail;refine leaves_cons (f:=23) (args:= #[.pointer (some ⟨W.heap.size+2,0,none⟩),.func (.func 30) #[] #[.pointer (some ⟨W.heap.size+1,0,none⟩)]]) (by simp) (by simp[go_sem]) ?_;have h3:=bcaught_panic ⟨W.heap.size+2,0,none⟩ 0 (2) 30 #[] #[.pointer (some ⟨W.heap.size+1,0,none⟩)] #[.pointer (some ⟨W.heap.size+1,0,none⟩)] (by simp) _ _ c1 z1 enters_bBind1 (bBind1_any (W.heap.size+1) [.int .i64 0,.int .i64 0,.int .i64 0,.int .i64 0,S [],.int .i64 0,.int .i64 0,S [],.slice none 0 0] rfl _ (set1_other (HF5.o).v (b:=W.heap.size+2) (by omega) 0 (.int .i64 (2))));refine h3.mono ?_;rintro e u' w'' ⟨rfl,rfl,hB9,hX9⟩;obtain⟨r0,r1,r2,r3,r4,r5,r6,r7,r8⟩:=nine hX9;have r9:=cK ((hB9.same (W.heap.size+2) (by omega)).trans (lN (HF5.o).e 0 (.int .i64 (2))));refine⟨.tuple #[BdV 0 0 (0,0,[]) 0 0 [] (.slice none 0 0),.int .i64 (2)],by simp[results,Tryz.results12,go_sem,r0,r1,r2,r3,r4,r5,r6,r7,r8,r9],⟨_,by rw[HZ.o],by rw[HZ.o];exact zero_readsD _ _⟩,hB9.bl ((HF5.o).bl.set (p:=⟨W.heap.size+2,0,none⟩) (by show W.heap.size<=W.heap.size+2;omega) _) (by omega)⟩
 ·have HZR:=aB (HQ4.o h160 rfl rfl);have HBD2:=aB (HBD.o rfl);clear HQ1 HQ2 HQ3 HQ4 HBD h160
  go_enter_defers Tryz.func12,Tryz.ntmps12
  go_wp2_with fail
  (with_reducible refine(bmust_yes _ _).mono ?_)
  rintro e w2 ⟨rfl,rfl⟩;go_wp2_with fail;refine(HCT.o _ HF0.o.bl).mono ?_;rintro e w3 ⟨rfl,hb3⟩;have HF3:=aB (HF0.o.call hb3);clear hb3;go_wp2_with fail
  (with_reducible refine(bmust_yes _ _).mono ?_)
  rintro e w4 ⟨rfl,rfl⟩;obtain⟨x0,x1,x2,x3,x4,x5,x6,x7⟩:=cells_x HF3.o.x;go_wp2_with fail;refine(HCK.o _ HF3.o.bl).mono ?_;rintro e w5 ⟨rfl,hb5⟩;have HF5:=aB (HF3.o.call hb5);clear hb5 x0 x1 x2 x3 x4 x5 x6 x7;go_wp2_with fail
  (with_reducible refine(bmust_yes _ _).mono ?_)
  rintro e w6 ⟨rfl,rfl⟩;obtain⟨x0,x1,x2,x3,x4,x5,x6,x7⟩:=cells_x HF5.o.x;go_wp2_with fail;refine(HBD2.o _ HF5.o.bl).mono ?_;rintro e w7 ⟨⟨hc0,v',rfl,hrd⟩|⟨hc0,rfl⟩,hb7⟩
  ·have HF7:=aB (HF5.o.call hb7);have HRD:=aB (show ReadsDP (fun b=>W.heap.size+3<=b) w7 R.1 v' from by
    obtain⟨s,e,hs⟩:=hrd;have hsz:W.heap.size+3<=w5.heap.size:=(by have:=(aC.1 HF5.o.e).1;omega);exact⟨s,e,hs.keep (aH _) (fun b (h:_<=b)=>by omega) fun _ _ _=>rfl⟩)
   obtain⟨R1,R2⟩:=R;simp only at hc0 HRD;subst hc0;obtain⟨ba,bc,rfl⟩:=hrd.args;obtain⟨rk,rt,⟨z1,z2,z3⟩,rp,ro,rn,rargs⟩:=R1;simp only[Bd.k,Bd.t,Bd.v,Bd.p,Bd.o,Bd.n,Bd.args] at *;generalize hra:rargs.length=mm at *;clear hb7 hrd x0 x1 x2 x3 x4 x5 x6 x7 HBZ;go_wp2_with (refine bA (g:=W.heap.size+1) (i:=0) rfl rfl rfl rfl [.int .i64 rk,.int .i64 rt,.int .i64 z1,.int .i64 z2,S z3,.int .i64 rp,.int .i64 ro,S rn,.slice ba mm bc] HF7.o.v rfl rfl bdInfo rfl ?_)
   intro w8 hB8 hX8;have hE8:=(hB8.same (W.heap.size+2) (by omega)).trans HF7.o.e;have c1:=cK hE8;have fz1:=aJ hE8 0;obtain⟨q0,q1,q2,q3,q4,q5,q6,q7,q8⟩:=nine hX8;go_wp2_with fail;refine leaves_cons (f:=23) (args:= #[.pointer (some ⟨W.heap.size+2,0,none⟩),.func (.func 30) #[] #[.pointer (some ⟨W.heap.size+1,0,none⟩)]]) (by simp) (by simp[go_sem]) ?_;refine(bcaught_idle _ _ _).mono ?_;rintro e u' w'' ⟨rfl,rfl,rfl⟩;obtain⟨r0,r1,r2,r3,r4,r5,r6,r7,r8⟩:=nine (set1_other hX8 (b:=W.heap.size+2) (by omega) 0 (.int .i64 0));have r9:=cK (lN hE8 0 (.int .i64 0));refine⟨.tuple #[BdV rk rt (z1,z2,z3) rp ro rn (.slice ba mm bc),.int .i64 0],by simp[results,Tryz.results12,go_sem,r0,r1,r2,r3,r4,r5,r6,r7,r8,r9],⟨_,by rw[HZR.o],?_⟩,(hB8.bl HF7.o.bl (by omega)).set (p:=⟨W.heap.size+2,0,none⟩) (by show W.heap.size<=W.heap.size+2;omega) _⟩;rw[HZR.o];obtain⟨s,e,hs⟩:=HRD.o;refine⟨s,e,(hs.keep (r:=fun b=>W.heap.size<=b) (Nat.le_of_eq ?_) (fun b (h:_<=b)=>by omega) fun b (h:_<=b) _=>?_)⟩
   ·simp[hB8.size]
   ·exact(aM _ ⟨W.heap.size+2,0,none⟩ _ b (by show b≠W.heap.size+2;omega)).trans (hB8.same b (by omega))
  ·have HF7:=aB (HF5.o.call hb7);have HZ:Hid (Z=(zeroD,R.2)):=by
    have h1:=HBZ.o hc0;show _=_;rw[HZR.o,<-h1]
   generalize R.2=cc at *;clear hb7 hc0 x0 x1 x2 x3 x4 x5 x6 x7 HBZ HZR;have c1:=cK (HF7.o).e;have z1:=aJ (HF7.o).e 0
   try unfold panE
   go_wp2_with fail;refine leaves_cons (f:=23) (args:= #[.pointer (some ⟨W.heap.size+2,0,none⟩),.func (.func 30) #[] #[.pointer (some ⟨W.heap.size+1,0,none⟩)]]) (by simp) (by simp[go_sem]) ?_;have h3:=bcaught_panic ⟨W.heap.size+2,0,none⟩ 0 (cc) 30 #[] #[.pointer (some ⟨W.heap.size+1,0,none⟩)] #[.pointer (some ⟨W.heap.size+1,0,none⟩)] (by simp) _ _ c1 z1 enters_bBind1 (bBind1_any (W.heap.size+1) [.int .i64 0,.int .i64 0,.int .i64 0,.int .i64 0,S [],.int .i64 0,.int .i64 0,S [],.slice none 0 0] rfl _ (set1_other (HF7.o).v (b:=W.heap.size+2) (by omega) 0 (.int .i64 (cc))));refine h3.mono ?_;rintro e u' w'' ⟨rfl,rfl,hB9,hX9⟩;obtain⟨r0,r1,r2,r3,r4,r5,r6,r7,r8⟩:=nine hX9;have r9:=cK ((hB9.same (W.heap.size+2) (by omega)).trans (lN (HF7.o).e 0 (.int .i64 (cc))));refine⟨.tuple #[BdV 0 0 (0,0,[]) 0 0 [] (.slice none 0 0),.int .i64 (cc)],by simp[results,Tryz.results12,go_sem,r0,r1,r2,r3,r4,r5,r6,r7,r8,r9],⟨_,by rw[HZ.o],by rw[HZ.o];exact zero_readsD _ _⟩,hB9.bl ((HF7.o).bl.set (p:=⟨W.heap.size+2,0,none⟩) (by show W.heap.size<=W.heap.size+2;omega) _) (by omega)⟩
end
end Go.Proofs.YtkimpcmkminffaaGreatDoor
