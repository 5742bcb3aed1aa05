/- Texts SU SV. -/
import Derived.Test.YtohlomdapelgeaaGreatDoorCP
import Derived.Test.YtohlomdapelgeaaGreatDoorCR
import Derived.Deep.MidRow
namespace Go.Proofs.YtohlomdapelgeaaGreatDoor
open _root_.Go.Proofs.Tryz
open Go.RowKit
open _root_.Go.RowKit.Below renaming grown->iL
open _root_.Go.Lib renaming hid->aB
open _root_.List renaming getElem?_eq_getElem->aP,getElem_mem->dS,map_append->kW,size_toArray->gG,take_add_one->dN,take_length->gJ,take_of_length_le->jS
open _root_.Nat renaming le_refl->aH,zero_le->dL
open _root_.Go.Value renaming ownBlock->iB
open _root_.Go.World renaming ownsRow_nil->d2l,size_alloc->aR
set_option maxRecDepth 100000
set_option maxHeartbeats 4000000
section
theorem d2k.range{W:World}{b o:Nat}{cs:List Value}(h:d2k W b o cs):W.rangeAt b o cs:=fun j v hv=>h j v hv
theorem ztoldSet_any{W:World}{p:Nat->Prop}{v:Value}{l:List _}(hl:RowsG gSt p W v l)(hlen:l.length<=1000000){fid:FuncId}{tx:_->List UInt8}(hen:∀(args:Array Value) (w:World),(callFunc fid args).run prog w= .ok (.enter fid args) w)
  (hf:∀x∈l,∀(W':World) (cs:List Value),Bl W W'->Shp.lies gSt p W' x cs->eg fid #[.agg cs.toArray] W' fun e w'=>e= .returned (S (tx x))/\Bl W' w'):
  eg 67 #[v,.func (.func fid) #[] #[]] W fun e w'=>(∃v',e= .returned v'/\w'.ownsRow W.heap.size 9 1 v' l.length ((l.map tx).map fun x=>S x))/\Bl W w':=by
 obtain⟨a,cap,rfl,hsh⟩:=hl.shape;have HC:=aB hsh;have HFN:=aB hf;clear hl hsh hf;go_enter func67,ntmps67;go_wp2_with fail;go_loopw [4,9] (fun o i wr=>∃(v0:Value) (j:Nat),v0=o/\i= .int .i64 (j:Int)/\j<=l.length/\Hid (wr.ownsRow W.heap.size 9 1 v0 j (((l.take j).map tx).map fun x=>S x))/\Hid (Bl W wr)) (fun _ i _=>l.length-(intOf i).toNat)
 case atStart=>exact⟨_,0,rfl,rfl,dL _,d2l _ _ _ _,Bl.refl W⟩
 case round=>
  obtain⟨v0,j,rfl,rfl,hj,HO,HB⟩:=hrel;have hzr:=HB.o.size;by_cases hlt:j<l.length
  ·obtain⟨b,off,cs,rfl,-,hb,hcs,hlies⟩:=HC.o j hlt;have hcl:=Shp.len gSt hlies;have HCL:=aB (show cs.length=9 from hcl);have HCO:=aB (Shp.one gSt hlies);have HCS:=aB (hcs.keep (HB.o.block b hb)).range;have HLI:=aB (Shp.keep gSt HB.o.size (fun _ _ h=>h) (fun b _ hl=>HB.o.block b hl) hlies);have HTX:=aB (show((l.take (j+1)).map tx).map (fun x=>S x)=((l.take j).map tx).map (fun x=>S x)++[S (tx l[j])] from by rw[dN,aP hlt,kW,kW];rfl);have HFJ:=aB (HFN.o l[j] (dS hlt));have hlow:=aB HO.o.lt;have hlt':(j:Int)<(l.length:Int):=aE;obtain⟨y,hy⟩:∃y:List UInt8,Hid (tx l[j]=y):=⟨tx l[j],aB rfl⟩
   rw[hy.o] at HTX HFJ;obtain⟨xs,hxs⟩:∃xs:List Value,Hid (((l.take j).map tx).map (fun x=>S x)=xs):=⟨_,aB rfl⟩
   rw[hxs.o] at HTX HO;clear hcs hlies hcl;go_wp2_with (first |(refine wpList_load_mid rfl 63 (.tmp 11) rfl b (off+j * 9) rfl cs _ HCS.o underlying63 rfl de ?_)|(refine bA (g:=wr.heap.size) (i:=0) rfl rfl rfl rfl cs (aN wr (.cells ([S [],.int .i64 0,.int .i64 0,.int .i64 0,S [],S [],S [],.int .i64 0,.slice none 0 0]).toArray 63)) (by rw[HCL.o];simp) (by rw[HCL.o];rfl) de HCO.o ?_))
   intro w1 hB1 hX1;have hb1:Bl wr w1:=iL ((Bl.refl wr).alloc _) hB1.grown aa (fun j hj=>by injection hj with hj;omega);have HB1:=aB (HB.o.call hb1);have HO1:=aB (gY hb1 HO.o);have HL1:=aB (Shp.keep gSt hb1.size (fun _ _ h=>h) (fun b _ hl=>hb1.block b hl) HLI.o);have HX1:=aB hX1;have HLT:=aB hb1.size;have HI2:=aB (show(prog.info? 63).map (·.size)=some cs.toArray.size from by rw[gG,HCL.o];exact setInfo);clear hB1 hX1 hb1 HLI HCS;go_wp2_with (refine wpList_load_row rfl 63 (.tmp 6) rfl wr.heap.size rfl 63 _ (0,0) _ HX1.o underlying63 rfl HI2.o ?_)
   refine(HFJ.o w1 cs HB1.o HL1.o).mono ?_;rintro e w2 ⟨rfl,hb2⟩;have HB2:=aB (HB1.o.call hb2);have HO2:=aB (gY hb2 HO1.o);have hz2:=HB2.o.size;clear hb2 HFJ;go_wp2_with (at_builtin;refine wpList_append_rowZ rfl (.tmp 13) (.tmp 17) rfl strInfoZ underlying27 rfl ae ae W.heap.size v0 j _ rfl (gY ((Bl.refl _).alloc _) HO2.o) w2.heap.size [S y] rfl (aN w2 _) rfl rfl aE am ?_)
   intro v' w6 hown6 hg6 hat;obtain⟨g6,c6,rfl⟩:=nG hown6;have HO6:=aB hown6;rw[<-HTX.o] at HO6;have HB6:=aB (show Bl W w6 from iL (HB2.o.alloc _) hg6 am (fun k e=>(hlow.o k e).1));clear hown6 hg6 hat;go_wp2;go_roundw
   case rel=>exact⟨_,j+1,rfl,by go_num,hlt,HO6.o,HB6.o⟩
   case measure=>simp[intOf];omega
  ·obtain rfl:j=l.length:=by omega
   rw[gJ] at HO;have hge:¬((l.length:Int)<(l.length:Int)):=aE;go_wp2;go_ret;exact⟨⟨v0,rfl,by first |exact HO.o|(have h:=HO.o;rw[List.map_map] at h;exact h)⟩,HB.o⟩
theorem ztoldEx_any{W:World}{p:Nat->Prop}{v:Value}{l:List _}(hl:RowsG gEx p W v l)(hlen:l.length<=1000000){fid:FuncId}{tx:_->List UInt8}(hen:∀(args:Array Value) (w:World),(callFunc fid args).run prog w= .ok (.enter fid args) w)
  (hf:∀x∈l,∀(W':World) (cs:List Value),Bl W W'->Shp.lies gEx p W' x cs->eg fid #[.agg cs.toArray] W' fun e w'=>e= .returned (S (tx x))/\Bl W' w'):
  eg 111 #[v,.func (.func fid) #[] #[]] W fun e w'=>(∃v',e= .returned v'/\w'.ownsRow W.heap.size 9 1 v' l.length ((l.map tx).map fun x=>S x))/\Bl W w':=by
 obtain⟨a,cap,rfl,hsh⟩:=hl.shape;have HC:=aB hsh;have HFN:=aB hf;clear hl hsh hf;go_enter func111,ntmps111;go_wp2_with fail;go_loopw [4,9] (fun o i wr=>∃(v0:Value) (j:Nat),v0=o/\i= .int .i64 (j:Int)/\j<=l.length/\Hid (wr.ownsRow W.heap.size 9 1 v0 j (((l.take j).map tx).map fun x=>S x))/\Hid (Bl W wr)) (fun _ i _=>l.length-(intOf i).toNat)
 case atStart=>exact⟨_,0,rfl,rfl,dL _,d2l _ _ _ _,Bl.refl W⟩
 case round=>
  obtain⟨v0,j,rfl,rfl,hj,HO,HB⟩:=hrel;have hzr:=HB.o.size;by_cases hlt:j<l.length
  ·obtain⟨b,off,cs,rfl,-,hb,hcs,hlies⟩:=HC.o j hlt;have hcl:=Shp.len gEx hlies;have HCL:=aB (show cs.length=8 from hcl);have HCO:=aB (Shp.one gEx hlies);have HCS:=aB (hcs.keep (HB.o.block b hb)).range;have HLI:=aB (Shp.keep gEx HB.o.size (fun _ _ h=>h) (fun b _ hl=>HB.o.block b hl) hlies);have HTX:=aB (show((l.take (j+1)).map tx).map (fun x=>S x)=((l.take j).map tx).map (fun x=>S x)++[S (tx l[j])] from by rw[dN,aP hlt,kW,kW];rfl);have HFJ:=aB (HFN.o l[j] (dS hlt));have hlow:=aB HO.o.lt;have hlt':(j:Int)<(l.length:Int):=aE;obtain⟨y,hy⟩:∃y:List UInt8,Hid (tx l[j]=y):=⟨tx l[j],aB rfl⟩
   rw[hy.o] at HTX HFJ;obtain⟨xs,hxs⟩:∃xs:List Value,Hid (((l.take j).map tx).map (fun x=>S x)=xs):=⟨_,aB rfl⟩
   rw[hxs.o] at HTX HO;clear hcs hlies hcl;go_wp2_with (first |(refine wpList_load_mid rfl 38 (.tmp 11) rfl b (off+j * 8) rfl cs _ HCS.o underlying38 rfl (by rw[HCL.o];exact d4b) ?_)|(refine bA (g:=wr.heap.size) (i:=0) rfl rfl rfl rfl cs (aN wr (.cells ([.int .i64 0,.int .i64 0,.int .i64 0,S [],S [],S [],.int .i64 0,.slice none 0 0]).toArray 38)) (by rw[HCL.o];simp) (by rw[HCL.o];rfl) (by rw[HCL.o];exact d4b) HCO.o ?_))
   intro w1 hB1 hX1;have hb1:Bl wr w1:=iL ((Bl.refl wr).alloc _) hB1.grown aa (fun j hj=>by injection hj with hj;omega);have HB1:=aB (HB.o.call hb1);have HO1:=aB (gY hb1 HO.o);have HL1:=aB (Shp.keep gEx hb1.size (fun _ _ h=>h) (fun b _ hl=>hb1.block b hl) HLI.o);have HX1:=aB hX1;have HLT:=aB hb1.size;have HI2:=aB (show(prog.info? 38).map (·.size)=some cs.toArray.size from by rw[gG,HCL.o];exact d4b);clear hB1 hX1 hb1 HLI HCS;go_wp2_with (refine wpList_load_row rfl 38 (.tmp 6) rfl wr.heap.size rfl 38 _ (0,0) _ HX1.o underlying38 rfl HI2.o ?_)
   refine(HFJ.o w1 cs HB1.o HL1.o).mono ?_;rintro e w2 ⟨rfl,hb2⟩;have HB2:=aB (HB1.o.call hb2);have HO2:=aB (gY hb2 HO1.o);have hz2:=HB2.o.size;clear hb2 HFJ;go_wp2_with (at_builtin;refine wpList_append_rowZ rfl (.tmp 13) (.tmp 17) rfl strInfoZ underlying27 rfl ae ae W.heap.size v0 j _ rfl (gY ((Bl.refl _).alloc _) HO2.o) w2.heap.size [S y] rfl (aN w2 _) rfl rfl aE am ?_)
   intro v' w6 hown6 hg6 hat;obtain⟨g6,c6,rfl⟩:=nG hown6;have HO6:=aB hown6;rw[<-HTX.o] at HO6;have HB6:=aB (show Bl W w6 from iL (HB2.o.alloc _) hg6 am (fun k e=>(hlow.o k e).1));clear hown6 hg6 hat;go_wp2;go_roundw
   case rel=>exact⟨_,j+1,rfl,by go_num,hlt,HO6.o,HB6.o⟩
   case measure=>simp[intOf];omega
  ·obtain rfl:j=l.length:=by omega
   rw[gJ] at HO;have hge:¬((l.length:Int)<(l.length:Int)):=aE;go_wp2;go_ret;exact⟨⟨v0,rfl,by first |exact HO.o|(have h:=HO.o;rw[List.map_map] at h;exact h)⟩,HB.o⟩
theorem ztoldWhen_any{W:World}{p:Nat->Prop}{v:Value}{l:List _}(hl:RowsG gWn p W v l)(hlen:l.length<=1000000){fid:FuncId}{tx:_->List UInt8}(hen:∀(args:Array Value) (w:World),(callFunc fid args).run prog w= .ok (.enter fid args) w)
  (hf:∀x∈l,∀(W':World) (cs:List Value),Bl W W'->Shp.lies gWn p W' x cs->eg fid #[.agg cs.toArray] W' fun e w'=>e= .returned (S (tx x))/\Bl W' w'):
  eg 72 #[v,.func (.func fid) #[] #[]] W fun e w'=>(∃v',e= .returned v'/\w'.ownsRow W.heap.size 9 1 v' l.length ((l.map tx).map fun x=>S x))/\Bl W w':=by
 obtain⟨a,cap,rfl,hsh⟩:=hl.shape;have HC:=aB hsh;have HFN:=aB hf;clear hl hsh hf;go_enter func72,ntmps72;go_wp2_with fail;go_loopw [4,9] (fun o i wr=>∃(v0:Value) (j:Nat),v0=o/\i= .int .i64 (j:Int)/\j<=l.length/\Hid (wr.ownsRow W.heap.size 9 1 v0 j (((l.take j).map tx).map fun x=>S x))/\Hid (Bl W wr)) (fun _ i _=>l.length-(intOf i).toNat)
 case atStart=>exact⟨_,0,rfl,rfl,dL _,d2l _ _ _ _,Bl.refl W⟩
 case round=>
  obtain⟨v0,j,rfl,rfl,hj,HO,HB⟩:=hrel;have hzr:=HB.o.size;by_cases hlt:j<l.length
  ·obtain⟨b,off,cs,rfl,-,hb,hcs,hlies⟩:=HC.o j hlt;have hcl:=Shp.len gWn hlies;have HCL:=aB (show cs.length=13 from hcl);have HCO:=aB (Shp.one gWn hlies);have HCS:=aB (hcs.keep (HB.o.block b hb)).range;have HLI:=aB (Shp.keep gWn HB.o.size (fun _ _ h=>h) (fun b _ hl=>HB.o.block b hl) hlies);have HTX:=aB (show((l.take (j+1)).map tx).map (fun x=>S x)=((l.take j).map tx).map (fun x=>S x)++[S (tx l[j])] from by rw[dN,aP hlt,kW,kW];rfl);have HFJ:=aB (HFN.o l[j] (dS hlt));have hlow:=aB HO.o.lt;have hlt':(j:Int)<(l.length:Int):=aE;obtain⟨y,hy⟩:∃y:List UInt8,Hid (tx l[j]=y):=⟨tx l[j],aB rfl⟩
   rw[hy.o] at HTX HFJ;obtain⟨xs,hxs⟩:∃xs:List Value,Hid (((l.take j).map tx).map (fun x=>S x)=xs):=⟨_,aB rfl⟩
   rw[hxs.o] at HTX HO;clear hcs hlies hcl;go_wp2_with (first |(refine wpList_load_mid rfl 87 (.tmp 11) rfl b (off+j * 13) rfl cs _ HCS.o underlying87 rfl db ?_)|(refine bA (g:=wr.heap.size) (i:=0) rfl rfl rfl rfl cs (aN wr (.cells ([.bool false,.int .i64 0,.int .i64 0,.int .i64 0,S [],S [],S [],.int .i64 0,.slice none 0 0,.int .i64 0,.slice none 0 0,.slice none 0 0,.slice none 0 0]).toArray 87)) (by rw[HCL.o];simp) (by rw[HCL.o];rfl) db HCO.o ?_))
   intro w1 hB1 hX1;have hb1:Bl wr w1:=iL ((Bl.refl wr).alloc _) hB1.grown aa (fun j hj=>by injection hj with hj;omega);have HB1:=aB (HB.o.call hb1);have HO1:=aB (gY hb1 HO.o);have HL1:=aB (Shp.keep gWn hb1.size (fun _ _ h=>h) (fun b _ hl=>hb1.block b hl) HLI.o);have HX1:=aB hX1;have HLT:=aB hb1.size;have HI2:=aB (show(prog.info? 87).map (·.size)=some cs.toArray.size from by rw[gG,HCL.o];exact whenInfo);clear hB1 hX1 hb1 HLI HCS;go_wp2_with (refine wpList_load_row rfl 87 (.tmp 6) rfl wr.heap.size rfl 87 _ (0,0) _ HX1.o underlying87 rfl HI2.o ?_)
   refine(HFJ.o w1 cs HB1.o HL1.o).mono ?_;rintro e w2 ⟨rfl,hb2⟩;have HB2:=aB (HB1.o.call hb2);have HO2:=aB (gY hb2 HO1.o);have hz2:=HB2.o.size;clear hb2 HFJ;go_wp2_with (at_builtin;refine wpList_append_rowZ rfl (.tmp 13) (.tmp 17) rfl strInfoZ underlying27 rfl ae ae W.heap.size v0 j _ rfl (gY ((Bl.refl _).alloc _) HO2.o) w2.heap.size [S y] rfl (aN w2 _) rfl rfl aE am ?_)
   intro v' w6 hown6 hg6 hat;obtain⟨g6,c6,rfl⟩:=nG hown6;have HO6:=aB hown6;rw[<-HTX.o] at HO6;have HB6:=aB (show Bl W w6 from iL (HB2.o.alloc _) hg6 am (fun k e=>(hlow.o k e).1));clear hown6 hg6 hat;go_wp2;go_roundw
   case rel=>exact⟨_,j+1,rfl,by go_num,hlt,HO6.o,HB6.o⟩
   case measure=>simp[intOf];omega
  ·obtain rfl:j=l.length:=by omega
   rw[gJ] at HO;have hge:¬((l.length:Int)<(l.length:Int)):=aE;go_wp2;go_ret;exact⟨⟨v0,rfl,by first |exact HO.o|(have h:=HO.o;rw[List.map_map] at h;exact h)⟩,HB.o⟩
end
section
theorem own_words{W:World}{xs:List (List UInt8)}{n:Nat}{cs:Array Value}(hc:cs=(xs.map fun x=>S x).toArray)(hn:n=xs.length)(hm:xs.length<=1000000):(W.alloc (.cells cs 9)).ownsRow W.heap.size 9 1 (.slice (some ⟨W.heap.size,0,none⟩) n n) xs.length (xs.map fun x=>S x):=by
 subst hc;subst hn;refine⟨by simp,.inr ⟨W.heap.size,xs.length,_,rfl,aH _,aN W _,aH _,by unfold maxLen;omega,by simp,?_⟩⟩;rw[Nat.mul_one];simp only;exact jS aa
theorem zwords_new{W:World}(xs:List (List UInt8))(cs:Array Value)(n b:Nat)(hcs:cs=(xs.map fun x=>S x).toArray)(hn:n=xs.length)(hm:xs.length<=1000000)(hb:b=W.heap.size)(hsome:∃x∈xs,x≠[])(hj:(jR [32] (xs.filter fullT)).length<=100000000):
  eg 24 #[.slice (some ⟨b,0,none⟩) n n] (W.alloc (.cells cs 9)) fun e w'=>e= .returned (S (jR [32] (xs.filter fullT)))/\Bl W w':=by
 subst hb;refine(zwords_any hm (own_words hcs hn hm) hsome hj).mono ?_;rintro e w' ⟨rfl,hg⟩;exact⟨rfl,iL ((Bl.refl W).alloc _) hg aa (fun j hj=>by
  have:W.heap.size=j:=(by simpa[iB] using hj);omega)⟩
end
end Go.Proofs.YtohlomdapelgeaaGreatDoor
