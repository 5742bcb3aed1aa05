/- Texts SI. -/
import Derived.Test.YtohlomdapelgeaaGreatDoorDB
import Derived.Test.YtohlomdapelgeaaGreatDoorCJ
namespace Go.Proofs.YtohlomdapelgeaaGreatDoor
open _root_.Go.Proofs.Tryz
open Go.RowKit
open _root_.Go.Act renaming put->aK
open _root_.Array renaming getElem?_eq_some_iff->aC
open _root_.Go.RowKit.Below renaming grown->iL
open _root_.Go.Lib renaming hid->aB
open _root_.List renaming setIfInBounds_toArray->aA,set_cons_succ->aF,set_cons_zero->aD
open NoPanic renaming normal->bF
set_option maxRecDepth 100000
set_option maxHeartbeats 8000000
section
theorem slRowInfo:(prog.info? 28).map (·.size)=some 1:=by kernel_rfl
abbrev insW(into:So)(cols:List (List UInt8))(rows:List (List Ex))(hq:Bool)(q:Qu)(conf:List (List UInt8))(act:Int)(sets:List St)(wher:Ex):Wr:=⟨1,into,cols,rows,hq,q,conf,act,sets,wher,⟨[],[]⟩,zeroE,[],[]⟩
abbrev insS(sc sr si sj sw sg sh so sf ss sv:Value):SlW:=⟨sc,sr,si,sj,sw,sg,sh,so,sf,ss,sv,.slice none 0 0,.slice none 0 0,.slice none 0 0⟩
theorem d2u.bind_bind{α β γ:Type}(r:d2u α)(f:Nat->α->d2u β)(h:Nat->β->d2u γ):(r.bind f).bind h=r.bind fun k x=>(f k x).bind h:=by cases r<;>rfl
def insE(ts:List Tok)(into:So)(cols:List (List UInt8))(rows:List (List Ex))(hq:Bool)(q:Qu)(k:Nat):d2u Wr:=(conflictR ts k).bind fun k4 p=> .good k4 (insW into cols rows hq q p.1 p.2.1 p.2.2.1 p.2.2.2)
def insD(ts:List Tok)(into:So)(cols:List (List UInt8))(rows:List (List Ex))(hq:Bool)(q:Qu)(k:Nat)(c:List (List UInt8)):d2u Wr:=(doR ts k).bind fun k4 p=> .good k4 (insW into cols rows hq q c p.1 p.2.1 p.2.2)
theorem names_must(ts:List Tok)(k:Nat):namesR ts true k=parenR ts (nameRW ts) k:=by
 unfold namesR parenR needR;cases bH ts k [[40]]<;>rfl
section
variable {ts:List Tok} {into:So} {cols:List (List UInt8)} {rows:List (List Ex)} {hq:Bool} {q:Qu} {k k1:Nat} {c:List (List UInt8)}
theorem insE_none(h:bH ts k [wOn,wConflict]=none):insE ts into cols rows hq q k= .good k (insW into cols rows hq q [] 0 [] zeroE):=by
 unfold insE conflictR;rw[h];rfl
theorem insE_some(h:bH ts k [wOn,wConflict]=some k1):insE ts into cols rows hq q k=(parenR ts (nameRW ts) k1).bind fun k2 c=>insD ts into cols rows hq q k2 c:=by
 unfold insE conflictR;rw[h];show((namesR ts true k1).bind _).bind _=_;rw[names_must,d2u.bind_bind]
 congr 1
 funext k2 c
 rw[d2u.bind_bind];rfl
theorem insD_some(h:bH ts k [wDo,wNothing]=some k1):insD ts into cols rows hq q k c= .good k1 (insW into cols rows hq q c 1 [] zeroE):=by
 unfold insD doR;rw[h];rfl
theorem insD_none(h:bH ts k [wDo,wNothing]=none):insD ts into cols rows hq q k c=(needR ts k [wDo,wUpdate]).bind fun k1 _=>(setsR ts k1).bind fun k2 l=>(d3s ts d6o k2).bind fun k3 x=> .good k3 (insW into cols rows hq q c 2 l x):=by
 unfold insD doR;rw[h];show((needR ts k [wDo,wUpdate]).bind _).bind _=_;rw[d2u.bind_bind]
 congr 1
 funext k2 _
 rw[d2u.bind_bind]
 congr 1
 funext k3 l
 rw[d2u.bind_bind];rfl
end
theorem insertR_eq(ts:List Tok)(into:So)(k:Nat):insertR ts into k=(namesR ts false k).bind fun k1 cols=>match bH ts k1 [wValues] with
 |some k2=>(d3o ts (rowR ts) ts.length k2 []).bind fun k3 rows=>insE ts into cols rows false d3z k3
 |none=>(d5c ts k1).bind fun k3 q=>insE ts into cols [] true q k3:=rfl
def QRd0(ts:List Tok)(k:Nat):Prop:=∀{W:World} {bs g cap:Nat},iV W bs g cap ts k->eg 191 #[.pointer (some ⟨bs,0,none⟩)] W (e7d bs g cap ts k W)
theorem zinsert_any{A:World}{bs bw g cap k:Nat}{ts:List Tok}(into:So)(h:iV A bs g cap ts k)(hT:lC ts)(hQ:∀k1 cols,namesR ts false k= .good k1 cols->bH ts k1 [wValues]=none->QRd0 ts k1)(hbw1:bs<bw)(hbw2:g<bw)(hbw3:bw<A.heap.size)(hx:HeapW A bw (begW 1 into) nilW):
  eg 131 #[RV bs,.pointer (some ⟨bw,0,none⟩)] A (BodyP bs bw g cap ts A (insertR ts into k)):=by
 obtain⟨R,HR⟩:∃R,Hid (R=insertR ts into k):=⟨_,rfl⟩
 rw[<-HR.o];have HQR:=aB hQ;have H:=aB h;have hgl:=h.gl;have HTK:=aB hT;have HF0:=aB (FrW.start (bs:=bs) hbw3 hx (parts_begW (fun b=>bw<b) A 1 into));have HS0:=aB (h.bl ((Bl.refl A).alloc (.cells #[.pointer (some ⟨bs,0,none⟩)] 122)));have HE0:=aB (HR.o.trans (insertR_eq ts into k));clear h hT hx hQ HR;go_enter func131,ntmps131;go_wp2_with fail;refine(znames_any HS0.o HTK.o).mono ?_;intro e w1 hp;obtain⟨hg1,k1,hs1,hcase⟩:=hp;have HF1:=aB (HF0.o.next hbw1 hbw3 hg1);have HS1:=aB hs1;have hz0:=HF0.o.size;clear hg1 hs1;rcases hcase with⟨cols,v,hr,hl,rfl⟩|⟨c,hc,hr,rfl⟩
 rotate_left
 ·have HB:=aB ((HE0).o.trans (d2u.bind_bad hr));clear hr;go_wp2;exact⟨rfl,BodyP.no (HF1).o.two (HS1).o hc HB.o⟩
 have HE1:=aB (HE0.o.trans (d2u.bind_yes hr));have HNR:=aB hr;obtain⟨ca,cc,rfl,-⟩:=id hl;have HP1:=aB (show PartsW (fun b=>bw<b) w1 (insW into cols [] false d3z [] 0 [] zeroE) (insS (.slice ca cols.length cc) (.slice none 0 0) (.slice none 0 0) (.slice none 0 0) (.slice none 0 0) (.slice none 0 0) (.slice none 0 0) (.slice none 0 0) (.slice none 0 0) (.slice none 0 0) (.slice none 0 0)) from
  {HF1.o.p with cols:=hl.low fun b _ (hb:_<=b)=>by omega})
 clear hr hl;go_wp2_with (refine bA (g:=bw) (i:=3) rfl rfl rfl rfl (cellsW (insW into cols [] false d3z [] 0 [] zeroE) (insS (.slice ca cols.length cc) (.slice none 0 0) (.slice none 0 0) (.slice none 0 0) (.slice none 0 0) (.slice none 0 0) (.slice none 0 0) (.slice none 0 0) (.slice none 0 0) (.slice none 0 0) (.slice none 0 0))) HF1.o.x rfl rfl slStrInfo rfl ?_)
 intro w2 hB2 hX2;have HF2:=aB (HF1.o.but hbw3 hB2 hX2 HP1.o);have HS2:=aB (HS1.o.but hB2 aE aE);clear hB2 hX2;have a0:=cK HF2.o.r;have hz2:=HF2.o.size;cases ht:bH ts k1 [wValues] with
 |some k2=>
  have HT:=aB ht;have HE2:=aB (show R=(d3o ts (rowR ts) ts.length k2 []).bind fun k3 rows=>insE ts into cols rows false d3z k3 from by rw[HE1.o,ht]);clear ht;go_wp2_with fail;refine(jD HS2.o [wValues] HT.o _ 1 _ _ rfl rfl aa aa).mono ?_;rintro e w3 ⟨rfl,hg3,hs3⟩;have HF3:=aB (HF2.o.next hbw1 hbw3 hg3);have HS3:=aB hs3;clear hg3 hs3 a0;have a0:=cK HF3.o.r;have hz3:=HF3.o.size;go_wp2_with fail;refine(zlistRow_any HS3.o HTK.o).mono ?_;intro e w4 hp;obtain⟨hg4,k4,hs4,hcase⟩:=hp;have HF4:=aB (HF3.o.next hbw1 hbw3 hg4);have HS4:=aB hs4;clear hg4 hs4 a0;rcases hcase with⟨l,v,hr,hl,rfl⟩|⟨c,hc,hr,rfl⟩
  rotate_left
  ·have HB:=aB ((HE2).o.trans (d2u.bind_bad hr));clear hr;go_wp2;exact⟨rfl,BodyP.no (HF4).o.two (HS4).o hc HB.o⟩
  have HE3:=aB (HE2.o.trans (d2u.bind_yes hr));obtain⟨ra,rc,rfl,-⟩:=id hl;have HP4:=aB (show PartsW (fun b=>bw<b) w4 (insW into cols l false d3z [] 0 [] zeroE) (insS (.slice ca cols.length cc) (.slice ra l.length rc) (.slice none 0 0) (.slice none 0 0) (.slice none 0 0) (.slice none 0 0) (.slice none 0 0) (.slice none 0 0) (.slice none 0 0) (.slice none 0 0) (.slice none 0 0)) from
   {HF4.o.p with rows:=hl.low fun b _ (hb:_<=b)=>by omega})
  clear hr hl;go_wp2_with (refine bA (g:=bw) (i:=4) rfl rfl rfl rfl (cellsW (insW into cols l false d3z [] 0 [] zeroE) (insS (.slice ca cols.length cc) (.slice ra l.length rc) (.slice none 0 0) (.slice none 0 0) (.slice none 0 0) (.slice none 0 0) (.slice none 0 0) (.slice none 0 0) (.slice none 0 0) (.slice none 0 0) (.slice none 0 0))) HF4.o.x rfl rfl slRowInfo rfl ?_)
  intro w5 hB5 hX5;have HF5:=aB (HF4.o.but hbw3 hB5 hX5 HP4.o);have HS5:=aB (HS4.o.but hB5 aE aE);clear hB5 hX5;have a0:=cK (HF5).o.r;have hz0:=(HF5).o.size;cases ht:bH ts k4 [wOn,wConflict] with
  |none=>
   have HT:=aB ht;have HE1:=aB ((HE3).o.trans (insE_none ht));clear ht;go_wp2_with fail;refine(kM (HS5).o [wOn,wConflict] HT.o _ 2 _ _ rfl rfl aa aa).mono ?_;rintro e w11 ⟨rfl,hg11,hs11⟩;have HF11:=aB ((HF5).o.next hbw1 hbw3 hg11);have HS11:=aB hs11;clear hg11 hs11 a0;go_wp2;go_end0;exact BodyP.yes (HF11).o.two (HS11).o (HE1).o (HF11).o.x (HF11).o.p
  |some k11=>
   have HT:=aB ht;have HE1:=aB ((HE3).o.trans (insE_some ht));clear ht;go_wp2_with fail;refine(jD (HS5).o [wOn,wConflict] HT.o _ 2 _ _ rfl rfl aa aa).mono ?_;rintro e w11 ⟨rfl,hg11,hs11⟩;have HF11:=aB ((HF5).o.next hbw1 hbw3 hg11);have HS11:=aB hs11;clear hg11 hs11 a0;have a0:=cK HF11.o.r;have hz11:=HF11.o.size;go_wp2_with fail;refine(zinsideStr_any HS11.o HTK.o).mono ?_;intro e w12 hp;obtain⟨hg12,k12,hs12,hcase⟩:=hp;have HF12:=aB (HF11.o.next hbw1 hbw3 hg12);have HS12:=aB hs12;clear hg12 hs12 a0;rcases hcase with⟨conf,v,hr,hl,rfl⟩|⟨c,hc,hr,rfl⟩
   rotate_left
   ·have HB:=aB ((HE1).o.trans (d2u.bind_bad hr));clear hr;go_wp2;exact⟨rfl,BodyP.no (HF12).o.two (HS12).o hc HB.o⟩
   have HE2:=aB (HE1.o.trans (d2u.bind_yes hr));obtain⟨fa,fc,rfl,-⟩:=id hl;have HP12:=aB (show PartsW (fun b=>bw<b) w12 (insW into cols l false d3z conf 0 [] zeroE) (insS (.slice ca cols.length cc) (.slice ra l.length rc) (.slice none 0 0) (.slice none 0 0) (.slice none 0 0) (.slice none 0 0) (.slice none 0 0) (.slice none 0 0) (.slice fa conf.length fc) (.slice none 0 0) (.slice none 0 0)) from{HF12.o.p with conf:=hl.low fun b _ (hb:_<=b)=>by omega});clear hr hl;go_wp2_with (refine bA (g:=bw) (i:=30) rfl rfl rfl rfl (cellsW (insW into cols l false d3z conf 0 [] zeroE) (insS (.slice ca cols.length cc) (.slice ra l.length rc) (.slice none 0 0) (.slice none 0 0) (.slice none 0 0) (.slice none 0 0) (.slice none 0 0) (.slice none 0 0) (.slice fa conf.length fc) (.slice none 0 0) (.slice none 0 0))) HF12.o.x rfl rfl slStrInfo rfl ?_)
   intro w13 hB13 hX13;have HF13:=aB (HF12.o.but hbw3 hB13 hX13 HP12.o);have HS13:=aB (HS12.o.but hB13 aE aE);clear hB13 hX13;have a0:=cK HF13.o.r;have hz13:=HF13.o.size;cases ht:bH ts k12 [wDo,wNothing] with
   |some k14=>
    have HT:=aB ht;have HE3:=aB (HE2.o.trans (insD_some ht));clear ht;go_wp2_with fail;refine(jD HS13.o [wDo,wNothing] HT.o _ 2 _ _ rfl rfl aa aa).mono ?_;rintro e w14 ⟨rfl,hg14,hs14⟩;have HF14:=aB (HF13.o.next hbw1 hbw3 hg14);have HS14:=aB hs14;have HP14:=aB (show PartsW (fun b=>bw<b) w14 (insW into cols l false d3z conf 1 [] zeroE) (insS (.slice ca cols.length cc) (.slice ra l.length rc) (.slice none 0 0) (.slice none 0 0) (.slice none 0 0) (.slice none 0 0) (.slice none 0 0) (.slice none 0 0) (.slice fa conf.length fc) (.slice none 0 0) (.slice none 0 0)) from{HF14.o.p with});clear hg14 hs14 a0;go_wp2_with (refine bA (g:=bw) (i:=31) rfl rfl rfl rfl (cellsW (insW into cols l false d3z conf 1 [] zeroE) (insS (.slice ca cols.length cc) (.slice ra l.length rc) (.slice none 0 0) (.slice none 0 0) (.slice none 0 0) (.slice none 0 0) (.slice none 0 0) (.slice none 0 0) (.slice fa conf.length fc) (.slice none 0 0) (.slice none 0 0))) HF14.o.x rfl rfl akInfo rfl ?_)
    intro w15 hB15 hX15;have HF15:=aB (HF14.o.but hbw3 hB15 hX15 HP14.o);have HS15:=aB (HS14.o.but hB15 aE aE);clear hB15 hX15;go_wp2;go_end0;exact BodyP.yes (HF15).o.two (HS15).o (HE3).o (HF15).o.x (HF15).o.p
   |none=>
    have HT:=aB ht;have HE3:=aB (HE2.o.trans (insD_none ht));clear ht;go_wp2_with fail;refine(kM HS13.o [wDo,wNothing] HT.o _ 2 _ _ rfl rfl aa aa).mono ?_;rintro e w14 ⟨rfl,hg14,hs14⟩;have HF14:=aB (HF13.o.next hbw1 hbw3 hg14);have HS14:=aB hs14;clear hg14 hs14 a0;have a0:=cK HF14.o.r;have hz14:=HF14.o.size;go_wp2_with fail;refine(zneed_any HS14.o [wDo,wUpdate] _ 2 _ _ rfl rfl aa aa).mono ?_;intro e w15 hp;obtain⟨hg15,k15,hs15,hcase⟩:=hp;have HF15:=aB (HF14.o.next hbw1 hbw3 hg15);have HS15:=aB hs15;clear hg15 hs15 a0;rcases hcase with⟨_,v,hr,rfl,rfl⟩|⟨c,hc,hr,rfl⟩
    rotate_left
    ·have HB:=aB ((HE3).o.trans (d2u.bind_bad hr));clear hr;go_wp2;exact⟨rfl,BodyP.no (HF15).o.two (HS15).o hc HB.o⟩
    have HE4:=aB (HE3.o.trans (d2u.bind_yes hr));have a0:=cK HF15.o.r;have hz15:=HF15.o.size;clear hr;go_wp2_with fail;refine(zsets_any HS15.o HTK.o).mono ?_;intro e w16 hp;obtain⟨hg16,k16,hs16,hcase⟩:=hp;have HF16:=aB (HF15.o.next hbw1 hbw3 hg16);have HS16:=aB hs16;clear hg16 hs16 a0;rcases hcase with⟨sets,v,hr,hl,rfl⟩|⟨c,hc,hr,rfl⟩
    rotate_left
    ·have HB:=aB ((HE4).o.trans (d2u.bind_bad hr));clear hr;go_wp2;exact⟨rfl,BodyP.no (HF16).o.two (HS16).o hc HB.o⟩
    have HE5:=aB (HE4.o.trans (d2u.bind_yes hr));obtain⟨ta,tc,rfl,-⟩:=id hl;have HP16:=aB (show PartsW (fun b=>bw<b) w16 (insW into cols l false d3z conf 2 [] zeroE) (insS (.slice ca cols.length cc) (.slice ra l.length rc) (.slice none 0 0) (.slice none 0 0) (.slice none 0 0) (.slice none 0 0) (.slice none 0 0) (.slice none 0 0) (.slice fa conf.length fc) (.slice none 0 0) (.slice none 0 0)) from{HF16.o.p with});have HQ16:=aB (show RowsG gSt (fun b=>bw<b) w16 (.slice ta sets.length tc) sets from hl.low fun b _ (hb:_<=b)=>by omega);clear hr hl;go_wp2_with (refine bA (g:=bw) (i:=31) rfl rfl rfl rfl (cellsW (insW into cols l false d3z conf 2 [] zeroE) (insS (.slice ca cols.length cc) (.slice ra l.length rc) (.slice none 0 0) (.slice none 0 0) (.slice none 0 0) (.slice none 0 0) (.slice none 0 0) (.slice none 0 0) (.slice fa conf.length fc) (.slice none 0 0) (.slice none 0 0))) HF16.o.x rfl rfl akInfo rfl ?_)
    intro w17 hB17 hX17;have HF17:=aB (HF16.o.but hbw3 hB17 hX17 HP16.o);have HS17:=aB (HS16.o.but hB17 aE aE);have HP17:=aB (show PartsW (fun b=>bw<b) w17 (insW into cols l false d3z conf 2 sets zeroE) (insS (.slice ca cols.length cc) (.slice ra l.length rc) (.slice none 0 0) (.slice none 0 0) (.slice none 0 0) (.slice none 0 0) (.slice none 0 0) (.slice none 0 0) (.slice fa conf.length fc) (.slice ta sets.length tc) (.slice none 0 0)) from{HF17.o.p with sets:=HQ16.o.butG hB17 fun i (hi:_<i)=>by omega});clear hB17 hX17;go_wp2_with (refine bA (g:=bw) (i:=32) rfl rfl rfl rfl (cellsW (insW into cols l false d3z conf 2 sets zeroE) (insS (.slice ca cols.length cc) (.slice ra l.length rc) (.slice none 0 0) (.slice none 0 0) (.slice none 0 0) (.slice none 0 0) (.slice none 0 0) (.slice none 0 0) (.slice fa conf.length fc) (.slice ta sets.length tc) (.slice none 0 0))) HF17.o.x rfl rfl slSetInfo rfl ?_)
    intro w18 hB18 hX18;have HF18:=aB (HF17.o.but hbw3 hB18 hX18 HP17.o);have HS18:=aB (HS17.o.but hB18 aE aE);clear hB18 hX18;have a0:=cK HF18.o.r;have hz18:=HF18.o.size;go_wp2_with fail;refine(zmaybe_any HS18.o HTK.o d6o).mono ?_;intro e w19 hp;obtain⟨hg19,k19,hs19,hcase⟩:=hp.openE;have HF19:=aB (HF18.o.next hbw1 hbw3 hg19);have HS19:=aB hs19;clear hp hg19 hs19 a0;rcases hcase with⟨xk,x1,x2,x3,xt,xn,xo,xa,asv,csv,hr,hA,rfl⟩|⟨c,hc,hr,rfl⟩
    rotate_left
    ·have HB:=aB ((HE5).o.trans (d2u.bind_bad hr));clear hr;go_wp2;exact⟨rfl,BodyP.no (HF19).o.two (HS19).o hc HB.o⟩
    have HE6:=aB (HE5.o.trans (d2u.bind_yes hr));have HP19:=aB (show PartsW (fun b=>bw<b) w19 (insW into cols l false d3z conf 2 sets (.mk xk (x1,x2,x3) xt xn xo xa)) (insS (.slice ca cols.length cc) (.slice ra l.length rc) (.slice none 0 0) (.slice none 0 0) (.slice none 0 0) (.slice none 0 0) (.slice none 0 0) (.slice none 0 0) (.slice fa conf.length fc) (.slice ta sets.length tc) (.slice asv xa.length csv)) from{HF19.o.p with wher:=hA.of fun b _ (hb:_<=b)=>by omega});clear hr hA;go_wp2_with (refine bA (g:=bw) (i:=33) rfl rfl rfl rfl (cellsW (insW into cols l false d3z conf 2 sets (.mk xk (x1,x2,x3) xt xn xo xa)) (insS (.slice ca cols.length cc) (.slice ra l.length rc) (.slice none 0 0) (.slice none 0 0) (.slice none 0 0) (.slice none 0 0) (.slice none 0 0) (.slice none 0 0) (.slice fa conf.length fc) (.slice ta sets.length tc) (.slice asv xa.length csv))) HF19.o.x rfl rfl d4b rfl ?_)
    intro w20 hB20 hX20;have HF20:=aB (HF19.o.but hbw3 hB20 hX20 HP19.o);have HS20:=aB (HS19.o.but hB20 aE aE);clear hB20 hX20;go_wp2;go_end0;exact BodyP.yes (HF20).o.two (HS20).o (HE6).o (HF20).o.x (HF20).o.p
 |none=>
  have HT:=aB ht;have HE2:=aB (show R=(d5c ts k1).bind fun k3 q=>insE ts into cols [] true q k3 from by rw[HE1.o,ht]);clear ht;go_wp2_with fail;refine(kM HS2.o [wValues] HT.o _ 1 _ _ rfl rfl aa aa).mono ?_;rintro e w3 ⟨rfl,hg3,hs3⟩;have HF3:=aB (HF2.o.next hbw1 hbw3 hg3);have HS3:=aB hs3;clear hg3 hs3 a0;have a0:=cK HF3.o.r;have hz3:=HF3.o.size;go_wp2_with fail;refine(HQR.o _ _ HNR.o HT.o HS3.o).mono ?_;rintro e w4 ⟨hg4,(⟨k4,q,v,hr,hs4,⟨si,sj,sw,sg,sh,so,rfl,hA⟩,rfl⟩|⟨c,hc,hr,hs4,rfl⟩)⟩;rotate_left
  ·have HF4:=aB (HF3.o.next hbw1 hbw3 hg4);have HS4:=aB hs4;have HB:=aB (HE2.o.trans (d2u.bind_bad hr));have hc0:(c==0)=false:=by rcases hc with rfl|rfl|rfl<;>rfl
   clear hg4 hs4 a0 hr;go_wp2_with (refine bA rfl rfl rfl rfl zQ0 (aN w4 _) rfl rfl tC rfl ?_)
   intro w5 hB5 hX5;have hb5:Bl w4 w5:=iL ((Bl.refl w4).alloc _) hB5.grown aa (fun j hj=>by injection hj with hj;omega);have HT5:=aB (HF4.o.two.bl hb5);have HS5:=aB (HS4.o.bl hb5);clear hB5 hX5 hb5;go_wp2_with fail
   (with_reducible refine(zmust_no _ _).mono ?_)
   rintro e w' ⟨rfl,rfl⟩;go_wp2;exact⟨rfl,BodyP.no HT5.o HS5.o hc HB.o⟩
  have HF4:=aB (HF3.o.next hbw1 hbw3 hg4);have HS4:=aB hs4;have HE3:=aB (HE2.o.trans (d2u.bind_yes hr));have hz4:=HF4.o.size;have HA4:=aB (hA.of (r:=fun b=>bw<b) fun b _ (hb:_<=b)=>by omega);have HONE:=aB hA.one;clear hg4 hs4 a0 hr hA;go_wp2_with (refine bA rfl rfl rfl rfl (quC q si sj sw sg sh so) (aN w4 _) rfl rfl tC HONE.o ?_)
  intro w5 hB5 hX5;have hb5:Bl w4 w5:=iL ((Bl.refl w4).alloc _) hB5.grown aa (fun j hj=>by injection hj with hj;omega);have HF5:=aB (HF4.o.next hbw1 hbw3 (gI hb5 _));have HS5:=aB (HS4.o.bl hb5);have HA5:=aB (HA4.o.bl hb5);have HX5:=aB hX5;clear hB5 hX5 hb5;go_wp2_with fail
  (with_reducible refine(zmust_yes _ _).mono ?_)
  rintro e w' ⟨rfl,rfl⟩
  go_upto_region 6 with fail
  refine wp_region_noPanic (bM (fun B=>B.heap[w4.heap.size]?=some (.cells (quC q si sj sw sg sh so).toArray 41 (0,0))) ((.take 0 (.take 1 (.take 2 (.take 3 (.take 4 (.one 5 (.take 6 (.take 7 (.one 8 .done)))))))))) af af af (fun _ _ _ _ _ h=>h) (((((Bl.refl _).drew).block _ (aC.1 HX5.o).1).trans HX5.o)) ?_);intro wd HWD hY;iterate 2 (refine cT ?_)
  refine aI rfl ab (fun w hSw=>eD rfl rfl hSw underlying41 rfl tC) ?_;(try simp only[aK,aA,aD,aF])
  iterate 2 (refine cT ?_)
  have HF6:=aB (HF5.o.next hbw1 hbw3 (gI HWD.o _));have HS6:=aB (HS5.o.bl HWD.o);have HA6:=aB (HA5.o.bl HWD.o);refine aL rfl (fun K hK=>?_);rw[if_pos ab];refine bC rfl rfl rfl (cellsW (insW into cols [] true d3z [] 0 [] zeroE) (insS (.slice ca cols.length cc) (.slice none 0 0) (.slice none 0 0) (.slice none 0 0) (.slice none 0 0) (.slice none 0 0) (.slice none 0 0) (.slice none 0 0) (.slice none 0 0) (.slice none 0 0) (.slice none 0 0))) HF6.o.x rfl rfl e3y rfl ?_;intro w7 hB7 hX7;refine hK.o _ _ (((hB7.same _ aE).trans hY)) ?_;clear hY hK K;intro hY;(try simp only[aK])
  have HF7:=aB (HF6.o.but hbw3 hB7 hX7 (show PartsW (fun b=>bw<b) wd (insW into cols [] true d3z [] 0 [] zeroE) (insS (.slice ca cols.length cc) (.slice none 0 0) (.slice none 0 0) (.slice none 0 0) (.slice none 0 0) (.slice none 0 0) (.slice none 0 0) (.slice none 0 0) (.slice none 0 0) (.slice none 0 0) (.slice none 0 0)) from{HF6.o.p with}));have HS7:=aB (HS6.o.but hB7 aE aE);have HA7:=aB (HA6.o.but hB7 fun i (hi:_<i)=>by omega);clear hB7 hX7;iterate 2 (refine cT ?_)
  refine aL rfl (fun K hK=>?_);rw[if_pos ab];refine bC rfl rfl rfl (cellsW (insW into cols [] true q [] 0 [] zeroE) (insS (.slice ca cols.length cc) (.slice none 0 0) si sj sw sg sh so (.slice none 0 0) (.slice none 0 0) (.slice none 0 0))) HF7.o.x rfl rfl tC HONE.o ?_;intro w8 hB8 hX8;refine hK.o _ _ (((hB8.same _ aE).trans hY)) ?_;clear hY hK K;intro hY;(try simp only[aK])
  refine fO (bF ?_);have HF8:=aB (HF7.o.but hbw3 hB8 hX8 (show PartsW (fun b=>bw<b) w7 (insW into cols [] true q [] 0 [] zeroE) (insS (.slice ca cols.length cc) (.slice none 0 0) si sj sw sg sh so (.slice none 0 0) (.slice none 0 0) (.slice none 0 0)) from{HF7.o.p with query:=HA7.o}));have HS8:=aB (HS7.o.but hB8 aE aE);clear hY hB8 hX8;have a0:=cK (HF8).o.r;have hz0:=(HF8).o.size;cases ht:bH ts k4 [wOn,wConflict] with
  |none=>
   have HT:=aB ht;have HE1:=aB ((HE3).o.trans (insE_none ht));clear ht;go_wp2_with fail;refine(kM (HS8).o [wOn,wConflict] HT.o _ 2 _ _ rfl rfl aa aa).mono ?_;rintro e w11 ⟨rfl,hg11,hs11⟩;have HF11:=aB ((HF8).o.next hbw1 hbw3 hg11);have HS11:=aB hs11;clear hg11 hs11 a0;go_wp2;go_end0;exact BodyP.yes (HF11).o.two (HS11).o (HE1).o (HF11).o.x (HF11).o.p
  |some k11=>
   have HT:=aB ht;have HE1:=aB ((HE3).o.trans (insE_some ht));clear ht;go_wp2_with fail;refine(jD (HS8).o [wOn,wConflict] HT.o _ 2 _ _ rfl rfl aa aa).mono ?_;rintro e w11 ⟨rfl,hg11,hs11⟩;have HF11:=aB ((HF8).o.next hbw1 hbw3 hg11);have HS11:=aB hs11;clear hg11 hs11 a0;have a0:=cK HF11.o.r;have hz11:=HF11.o.size;go_wp2_with fail;refine(zinsideStr_any HS11.o HTK.o).mono ?_;intro e w12 hp;obtain⟨hg12,k12,hs12,hcase⟩:=hp;have HF12:=aB (HF11.o.next hbw1 hbw3 hg12);have HS12:=aB hs12;clear hg12 hs12 a0;rcases hcase with⟨conf,v,hr,hl,rfl⟩|⟨c,hc,hr,rfl⟩
   rotate_left
   ·have HB:=aB ((HE1).o.trans (d2u.bind_bad hr));clear hr;go_wp2;exact⟨rfl,BodyP.no (HF12).o.two (HS12).o hc HB.o⟩
   have HE2:=aB (HE1.o.trans (d2u.bind_yes hr));obtain⟨fa,fc,rfl,-⟩:=id hl;have HP12:=aB (show PartsW (fun b=>bw<b) w12 (insW into cols [] true q conf 0 [] zeroE) (insS (.slice ca cols.length cc) (.slice none 0 0) si sj sw sg sh so (.slice fa conf.length fc) (.slice none 0 0) (.slice none 0 0)) from{HF12.o.p with conf:=hl.low fun b _ (hb:_<=b)=>by omega});clear hr hl;go_wp2_with (refine bA (g:=bw) (i:=30) rfl rfl rfl rfl (cellsW (insW into cols [] true q conf 0 [] zeroE) (insS (.slice ca cols.length cc) (.slice none 0 0) si sj sw sg sh so (.slice fa conf.length fc) (.slice none 0 0) (.slice none 0 0))) HF12.o.x rfl rfl slStrInfo rfl ?_)
   intro w13 hB13 hX13;have HF13:=aB (HF12.o.but hbw3 hB13 hX13 HP12.o);have HS13:=aB (HS12.o.but hB13 aE aE);clear hB13 hX13;have a0:=cK HF13.o.r;have hz13:=HF13.o.size;cases ht:bH ts k12 [wDo,wNothing] with
   |some k14=>
    have HT:=aB ht;have HE3:=aB (HE2.o.trans (insD_some ht));clear ht;go_wp2_with fail;refine(jD HS13.o [wDo,wNothing] HT.o _ 2 _ _ rfl rfl aa aa).mono ?_;rintro e w14 ⟨rfl,hg14,hs14⟩;have HF14:=aB (HF13.o.next hbw1 hbw3 hg14);have HS14:=aB hs14;have HP14:=aB (show PartsW (fun b=>bw<b) w14 (insW into cols [] true q conf 1 [] zeroE) (insS (.slice ca cols.length cc) (.slice none 0 0) si sj sw sg sh so (.slice fa conf.length fc) (.slice none 0 0) (.slice none 0 0)) from{HF14.o.p with});clear hg14 hs14 a0;go_wp2_with (refine bA (g:=bw) (i:=31) rfl rfl rfl rfl (cellsW (insW into cols [] true q conf 1 [] zeroE) (insS (.slice ca cols.length cc) (.slice none 0 0) si sj sw sg sh so (.slice fa conf.length fc) (.slice none 0 0) (.slice none 0 0))) HF14.o.x rfl rfl akInfo rfl ?_)
    intro w15 hB15 hX15;have HF15:=aB (HF14.o.but hbw3 hB15 hX15 HP14.o);have HS15:=aB (HS14.o.but hB15 aE aE);clear hB15 hX15;go_wp2;go_end0;exact BodyP.yes (HF15).o.two (HS15).o (HE3).o (HF15).o.x (HF15).o.p
   |none=>
    have HT:=aB ht;have HE3:=aB (HE2.o.trans (insD_none ht));clear ht;go_wp2_with fail;refine(kM HS13.o [wDo,wNothing] HT.o _ 2 _ _ rfl rfl aa aa).mono ?_;rintro e w14 ⟨rfl,hg14,hs14⟩;have HF14:=aB (HF13.o.next hbw1 hbw3 hg14);have HS14:=aB hs14;clear hg14 hs14 a0;have a0:=cK HF14.o.r;have hz14:=HF14.o.size;go_wp2_with fail;refine(zneed_any HS14.o [wDo,wUpdate] _ 2 _ _ rfl rfl aa aa).mono ?_;intro e w15 hp;obtain⟨hg15,k15,hs15,hcase⟩:=hp;have HF15:=aB (HF14.o.next hbw1 hbw3 hg15);have HS15:=aB hs15;clear hg15 hs15 a0;rcases hcase with⟨_,v,hr,rfl,rfl⟩|⟨c,hc,hr,rfl⟩
    rotate_left
    ·have HB:=aB ((HE3).o.trans (d2u.bind_bad hr));clear hr;go_wp2;exact⟨rfl,BodyP.no (HF15).o.two (HS15).o hc HB.o⟩
    have HE4:=aB (HE3.o.trans (d2u.bind_yes hr));have a0:=cK HF15.o.r;have hz15:=HF15.o.size;clear hr;go_wp2_with fail;refine(zsets_any HS15.o HTK.o).mono ?_;intro e w16 hp;obtain⟨hg16,k16,hs16,hcase⟩:=hp;have HF16:=aB (HF15.o.next hbw1 hbw3 hg16);have HS16:=aB hs16;clear hg16 hs16 a0;rcases hcase with⟨sets,v,hr,hl,rfl⟩|⟨c,hc,hr,rfl⟩
    rotate_left
    ·have HB:=aB ((HE4).o.trans (d2u.bind_bad hr));clear hr;go_wp2;exact⟨rfl,BodyP.no (HF16).o.two (HS16).o hc HB.o⟩
    have HE5:=aB (HE4.o.trans (d2u.bind_yes hr));obtain⟨ta,tc,rfl,-⟩:=id hl;have HP16:=aB (show PartsW (fun b=>bw<b) w16 (insW into cols [] true q conf 2 [] zeroE) (insS (.slice ca cols.length cc) (.slice none 0 0) si sj sw sg sh so (.slice fa conf.length fc) (.slice none 0 0) (.slice none 0 0)) from{HF16.o.p with});have HQ16:=aB (show RowsG gSt (fun b=>bw<b) w16 (.slice ta sets.length tc) sets from hl.low fun b _ (hb:_<=b)=>by omega);clear hr hl;go_wp2_with (refine bA (g:=bw) (i:=31) rfl rfl rfl rfl (cellsW (insW into cols [] true q conf 2 [] zeroE) (insS (.slice ca cols.length cc) (.slice none 0 0) si sj sw sg sh so (.slice fa conf.length fc) (.slice none 0 0) (.slice none 0 0))) HF16.o.x rfl rfl akInfo rfl ?_)
    intro w17 hB17 hX17;have HF17:=aB (HF16.o.but hbw3 hB17 hX17 HP16.o);have HS17:=aB (HS16.o.but hB17 aE aE);have HP17:=aB (show PartsW (fun b=>bw<b) w17 (insW into cols [] true q conf 2 sets zeroE) (insS (.slice ca cols.length cc) (.slice none 0 0) si sj sw sg sh so (.slice fa conf.length fc) (.slice ta sets.length tc) (.slice none 0 0)) from{HF17.o.p with sets:=HQ16.o.butG hB17 fun i (hi:_<i)=>by omega});clear hB17 hX17;go_wp2_with (refine bA (g:=bw) (i:=32) rfl rfl rfl rfl (cellsW (insW into cols [] true q conf 2 sets zeroE) (insS (.slice ca cols.length cc) (.slice none 0 0) si sj sw sg sh so (.slice fa conf.length fc) (.slice ta sets.length tc) (.slice none 0 0))) HF17.o.x rfl rfl slSetInfo rfl ?_)
    intro w18 hB18 hX18;have HF18:=aB (HF17.o.but hbw3 hB18 hX18 HP17.o);have HS18:=aB (HS17.o.but hB18 aE aE);clear hB18 hX18;have a0:=cK HF18.o.r;have hz18:=HF18.o.size;go_wp2_with fail;refine(zmaybe_any HS18.o HTK.o d6o).mono ?_;intro e w19 hp;obtain⟨hg19,k19,hs19,hcase⟩:=hp.openE;have HF19:=aB (HF18.o.next hbw1 hbw3 hg19);have HS19:=aB hs19;clear hp hg19 hs19 a0;rcases hcase with⟨xk,x1,x2,x3,xt,xn,xo,xa,asv,csv,hr,hA,rfl⟩|⟨c,hc,hr,rfl⟩
    rotate_left
    ·have HB:=aB ((HE5).o.trans (d2u.bind_bad hr));clear hr;go_wp2;exact⟨rfl,BodyP.no (HF19).o.two (HS19).o hc HB.o⟩
    have HE6:=aB (HE5.o.trans (d2u.bind_yes hr));have HP19:=aB (show PartsW (fun b=>bw<b) w19 (insW into cols [] true q conf 2 sets (.mk xk (x1,x2,x3) xt xn xo xa)) (insS (.slice ca cols.length cc) (.slice none 0 0) si sj sw sg sh so (.slice fa conf.length fc) (.slice ta sets.length tc) (.slice asv xa.length csv)) from{HF19.o.p with wher:=hA.of fun b _ (hb:_<=b)=>by omega});clear hr hA;go_wp2_with (refine bA (g:=bw) (i:=33) rfl rfl rfl rfl (cellsW (insW into cols [] true q conf 2 sets (.mk xk (x1,x2,x3) xt xn xo xa)) (insS (.slice ca cols.length cc) (.slice none 0 0) si sj sw sg sh so (.slice fa conf.length fc) (.slice ta sets.length tc) (.slice asv xa.length csv))) HF19.o.x rfl rfl d4b rfl ?_)
    intro w20 hB20 hX20;have HF20:=aB (HF19.o.but hbw3 hB20 hX20 HP19.o);have HS20:=aB (HS19.o.but hB20 aE aE);clear hB20 hX20;go_wp2;go_end0;exact BodyP.yes (HF20).o.two (HS20).o (HE6).o (HF20).o.x (HF20).o.p
end
end Go.Proofs.YtohlomdapelgeaaGreatDoor
