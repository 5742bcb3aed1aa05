/- Texts beside the shared ones. -/
import Derived.Test.YtkimpcmkminffaaGreatDoorTX0
import Derived.Test.YtkimpcmkminffaaGreatDoorTGD
namespace Go.Proofs.YtkimpcmkminffaaGreatDoor
open Go.RowKit
open _root_.Bool renaming and_eq_true->aQ
open _root_.List renaming all_eq_true->jA,getElem?_eq_getElem->aP
open _root_.Nat renaming le_refl->aH
open _root_.Go.World renaming block_lt_of_cell?->bB
set_option maxRecDepth 100000
set_option maxHeartbeats 2000000
section
theorem okv_kind{v:Vl}(h:okVl v=true):I64 v.1:=by
 obtain⟨k,n,l⟩:=v;unfold okVl at h;have h:chk k n l=0:=(by simpa using h);unfold chk at h;split at h
 ·cases h
 ·split at h
  ·rename_i hk;constructor<;>(show _<=_;simp only;omega)
  ·cases h
theorem group_ok{b:Bd}{rows:List (List Vl)}(h:(groupQ b rows).2=0):okVl (groupQ b rows).1=true:=by
 unfold groupQ at h⊢;by_cases hb:(rowsB rows&&rightD (widthR rows) b)=false
 ·rw[if_pos hb] at h;cases h
 ·rw[if_neg hb] at h⊢;have hb':rowsB rows=true/\rightD (widthR rows) b=true:=(by simpa using hb);by_cases hw:(workD rows b).2=0
  ·rw[if_neg (fun e=>e hw)];refine work_ok (widthR rows) b rows (fun r hr=>?_) hb'.2 hw;have h1:=hb'.1;rw[rows_good] at h1;have h2:=jA.1 h1 r hr;unfold goodR at h2;exact(Bool.and_eq_true_iff.1 h2).2
  ·rw[if_pos hw] at h;exact absurd h hw
theorem border_all(b:Bd)(rows:List (List Vl))(x y:Int)(W:World)(v:Value)(ra:Option Addr)(rc:Nat)(hm:rows.length<=9223372036854775807)(hv:ReadsD W b v)(hr:ReadsRw (fun _=>True) W (.slice ra rows.length rc) rows)(hi:i64D b)(hint:∀r∈rows,∀v∈r,Int2 v)(hG:nD W):Calls Tryz.prog 3 #[v,.slice ra rows.length rc,.agg #[.int .i64 x,.int .i64 y]] W (Yes W):=by
 have HS1:Hid (∀W',Bl W W'->Calls Tryz.prog 5 #[v,.int .i64 20] W' fun e w'=>e= .returned (.int .i64 (sizeV 1100 20 b:Int))/\Bl W' w'):=fun W' hb=>size20_any _ b (aH _) 20 20 W' v rfl (by omega) (hv.bl hb);have HWO:Hid (∀W',Bl W W'->Calls Tryz.prog 7 #[] W' fun e w'=>e= .returned (.bool true)/\Bl W' w'):=fun W' hb=>works20_any W' (hG.bl hb);have HSL:Hid (∀(W':World),Bl W W'->Calls Tryz.prog 6 #[.slice ra rows.length rc] W' fun e w'=>e= .returned (.bool (smallB rows))/\W'=w'):=fun W' hb=>small20_big rows hm W' _ _ (hr.bl hb);by_cases hbad:20<sizeV 1100 20 b\/smallB rows=false\/b.k≠5\/x<0\/(rows.length:Int)<=x\/y<0\/(rows.length:Int)<=y
 ·exact border_bad b rows.length x y W v ra rc (sizeV 1100 20 b) (smallB rows) hv HS1 HWO HSL hbad
 have hz:sizeV 1100 20 b<=20:=(by omega);have hsb:smallB rows=true:=by
  cases h:smallB rows
  ·exact absurd (.inr (.inl h)) hbad
  ·rfl
 have hk:b.k=5:=by
  by_cases h:b.k=5
  ·exact h
  ·exact absurd (.inr (.inr (.inl h))) hbad
 have hpb:=(sV_parts 1100 20 b hz).1;have hl20:rows.length<=20/\∀r∈rows,r.length<=20:=by
  have hsb':=hsb;unfold smallB at hsb';simp only[aQ,decide_eq_true_eq] at hsb';refine⟨hsb'.2,fun r hr=>?_⟩;have:=jA.1 hsb'.1 r hr;unfold smallR at this;simp only[aQ,decide_eq_true_eq] at this;exact this.1
 obtain⟨i,rfl⟩:∃i:Nat,x=(i:Int):=⟨x.toNat,by omega⟩
 obtain⟨j,rfl⟩:∃j:Nat,y=(j:Int):=⟨y.toNat,by omega⟩
 have hil:i<rows.length:=(by omega);have hjl:j<rows.length:=(by omega);clear hbad;obtain⟨sl,rb,ro,rfl,hsl,hcs,hrs,hone⟩:=rows_own20 hr (by omega);have hil':i<sl.length:=(by omega);have hjl':j<sl.length:=(by omega);obtain⟨ai,ci,hsi,-⟩:=(hrs i hil hil').shape;obtain⟨aj,cj,hsj,-⟩:=(hrs j hjl hjl').shape;have hlen':((rows.set i rows[j]).set j rows[i]).length=rows.length:=(by simp);have hperm:=group_perm hk (swap_perm hil hjl);have HE1:Hid (∀W',Bl W W'->Calls Tryz.prog 8 #[v,.slice (some ⟨rb,ro,none⟩) rows.length rc] W' fun e w'=>e= .returned (.tuple #[VlV (groupQ b rows).1,.int .i64 (groupQ b rows).2])/\Bl W' w'):=fun W' hb=>bGroup_any b rows (by omega) (i64D_ints hi) (by omega) (fun r hr=>by have:=hl20.2 r hr;omega) (fun r hr v hv=>(hint r hr v hv).2) W' v _ rc (hv.bl hb) (hr.bl hb);have hmem:∀r∈(rows.set i rows[j]).set j rows[i],r∈rows:=fun r hr=>(swap_perm hil hjl).mem_iff.2 hr;have HE2:Hid (∀(W':World) (g c:Nat) (cl:List Value),Bl W W'->W'.heap[g]?=some (.cells cl.toArray 36 (0,0))->cl.take rows.length=(sl.set i (.slice aj rows[j].length cj)).set j (.slice ai rows[i].length ci)->Calls Tryz.prog 8 #[v,.slice (some ⟨g,0,none⟩) rows.length c] W' fun e w'=>e= .returned (.tuple #[VlV (groupQ b ((rows.set i rows[j]).set j rows[i])).1,.int .i64 (groupQ b ((rows.set i rows[j]).set j rows[i])).2])/\Bl W' w'):=fun W' g c cl hb hg ht=>by
  rw[<-hsi,<-hsj] at ht;have hrd:=rows_reads20 (rows:=(rows.set i rows[j]).set j rows[i]) (cap:=c) hg (by rw[hlen'];exact ht) (by simp[hsl]) fun k h h'=>two_set20 (w:=W') (fun k h h'=>(hrs k h h').bl hb) hil hjl hil' hjl' k h h';have h:=bGroup_any b ((rows.set i rows[j]).set j rows[i]) (by omega) (i64D_ints hi) (by omega) (fun r hr=>by have:=hl20.2 r (hmem r hr);omega) (fun r hr v hv=>(hint r (hmem r hr) v hv).2) W' v _ c (hv.bl hb) hrd;rw[hlen'] at h;exact h
 have hok:=fun h=>okv_kind (group_ok (b:=b) (rows:=rows) h);rw[hsb] at HSL;generalize groupQ b ((rows.set i rows[j]).set j rows[i])=G2 at *;generalize groupQ b rows=G1 at *;obtain⟨⟨r1,r2,r3⟩,ec⟩:=G1;obtain⟨⟨s1,s2,s3⟩,fc⟩:=G2;simp only at hperm hok;have hlt:rb<W.heap.size:=by
  have h:=bB _ _ (hcs i _ (aP hil'));rw[c0s] at h;exact h
 refine border_good b rows.length i j hil hjl hl20.1 W v rb ro rc (sizeV 1100 20 b) hv hk hz HS1 HWO HSL sl hsl (fun k u h=>hcs k u h) (fun k u h=>hlt) hone ai aj rows[i].length ci rows[j].length cj (by rw[aP hil',hsi]) (by rw[aP hjl',hsj]) r1 r2 ec s1 s2 fc r3 s3 HE1 HE2 (fun h=>?_) (fun h h2=>h (hperm.1.2 h2));have h2:=hperm.2 h;simp only[Prod.mk.injEq] at h2;obtain⟨⟨e1,e2,e3⟩,e4⟩:=h2;exact⟨e1.symm,e2.symm,e3.symm,by rw[<-e4];exact h,hok h⟩
end
end Go.Proofs.YtkimpcmkminffaaGreatDoor
