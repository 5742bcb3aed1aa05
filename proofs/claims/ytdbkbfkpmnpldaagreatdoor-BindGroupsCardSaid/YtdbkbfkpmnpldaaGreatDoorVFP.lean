/- Texts beside the shared ones. -/
import Derived.Test.YtdbkbfkpmnpldaaGreatDoorVX0
import Derived.Test.YtdbkbfkpmnpldaaGreatDoorVFO
namespace Go.Proofs.YtdbkbfkpmnpldaaGreatDoor
open Go.RowKit
open _root_.Bool renaming and_eq_true->aQ
open _root_.Go.Lib renaming hid->aB
open _root_.List renaming getD_eq_getElem?_getD->lY,getElem?_eq_getElem->aP,getElem_mem->dS,mem_singleton->gQ
set_option maxRecDepth 100000
set_option maxHeartbeats 4000000
section
theorem zero_ite{P:Prop}[Decidable P]{a b:Vl×Int}(ha:a.2≠0->a.1=zVl)(hb:b.2≠0->b.1=zVl):(if P then a else b).2≠0->(if P then a else b).1=zVl:=by
 split<;>assumption
theorem whole_zero{o a b:Int}(h:(wholeO o a b).2≠0):(wholeO o a b).1=zVl:=by
 obtain⟨⟨⟨r1,r2,r3⟩,c⟩,hR⟩:∃R,wholeO o a b=R:=⟨_,rfl⟩
 rw[hR] at h⊢;rcases whole_shape hR with⟨hc,-,-⟩|⟨-,rfl,rfl,rfl⟩
 ·exact absurd hc h
 ·rfl
theorem no_err{v:Vl}:((v,(0:Int)):Vl×Int).2≠0->((v,(0:Int)):Vl×Int).1=zVl:=fun h=>absurd rfl h
theorem do_zero{o:Int}{l:List Vl}:(doO o l).2≠0->(doO o l).1=zVl:=by
 unfold doO;exact zero_ite (fun _=>rfl) (zero_ite (fun _=>rfl) (zero_ite no_err (zero_ite no_err (zero_ite no_err (zero_ite no_err (zero_ite no_err (zero_ite (zero_ite (fun _=>rfl) no_err) (zero_ite no_err (zero_ite no_err (fun h=>whole_zero h))))))))))
theorem total_zero{l:List Vl}:(totalV l).2≠0->(totalV l).1=zVl:=by
 unfold totalV;exact zero_ite no_err (fun _=>rfl)
theorem summed_zero{n:List UInt8}{l:List Vl}{rows args:Nat}:(summedV n l rows args).2≠0->(summedV n l rows args).1=zVl:=by
 unfold summedV;refine zero_ite no_err ?_;cases l.filter fun v=>v.1 != 0 with
 |nil=>exact no_err
 |cons a r=>exact zero_ite (zero_ite (fun _=>rfl) (fun h=>total_zero h)) no_err
theorem work_zero{rows:List (List Vl)}{b:Bd}(h:(workD rows b).2≠0):(workD rows b).1=zVl:=by
 obtain⟨k,t,v,p,o,n,l⟩:=b;rw[workD.eq_def] at h⊢;simp only at h⊢;split at h
 ·exact absurd rfl h
 rename_i h1;rw[if_neg h1];split at h
 ·split at h<;>exact absurd rfl h
 rename_i h2;rw[if_neg h2];split at h
 ·rename_i h5;rw[if_pos h5];split at h
  ·rename_i hv;rw[if_pos hv]
  ·rename_i hv;rw[if_neg hv];exact summed_zero h
 ·rename_i h5;rw[if_neg h5];split at h
  ·rename_i hv;rw[if_pos hv]
  ·rename_i hv;rw[if_neg hv];split at h
   ·rename_i h3;rw[if_pos h3];exact do_zero h
   ·exact absurd rfl h
theorem wwork_cnt(x:Bd)(hk:x.k=5)(hargs:x.args=[])(hn:x.n=gX)(rows:Nat)(hrows:rows<=999999)(W:World)(v:Value)(ra:Option Addr)(rc:Nat)(hv:ReadsD W x v):Calls Tryz.prog 44 #[v,.slice ra rows rc] W fun e w'=>e=VE ((2,(rows:Int),[]),0)/\Bl W w':=by
 obtain⟨sv,rfl,hR⟩:=hv;obtain⟨a,cap,rfl,hc⟩:=hR.shape;have HC:=aB hc;clear hR hc;obtain⟨k,t,⟨v1,v2,v3⟩,p,o,n,args⟩:=x;simp only[Bd.k,Bd.t,Bd.v,Bd.p,Bd.o,Bd.n,Bd.args] at *;obtain⟨m,hm⟩:∃m,args.length=m:=⟨_,rfl⟩
 have HM:=aB hm;rw[hm];clear hm;have HF0:=aB (WkF.start (cellsB k t v1 v2 v3 p o n (.slice a m cap)) W);obtain⟨e0,e1,e2,e3,e4,e5,e6,e7,e8⟩:=nine HF0.o.x;have HNF:=aB (show Four n from .inl hn);have hm0:m=0:=(by rw[<-HM.o,hargs];rfl);have g1:(k==1)=false:=(by rw[hk];rfl);have g2:(k==2)=false:=(by rw[hk];rfl);have g5:(k==5)=true:=(by rw[hk];rfl);have HSU:Hid (∀w,Calls Tryz.prog 68 #[S n,.slice none 0 0,.int .i64 rows,.int .i64 0] w fun e w'=>e= .returned (.tuple #[VlV (2,(rows:Int),[]),.int .i64 0])/\Bl w w'):=fun w=>by
  have h:=wsummed_any (n:=n) (l:=[]) HNF.o (by simp) (fun v hv=>by cases hv) rows 0 (by omega) w none 0 (p:=fun _=>True) ⟨none,0,rfl,fun j v h=>by simp at h⟩;rw[rsum_count hn,if_pos rfl] at h;exact h
 subst hm0;clear hk hargs e0 e1 e2 e3 e4 e5 e6 e7 e8 HC hn;obtain⟨e0,-,-,-,-,-,-,-,-⟩:=nine HF0.o.x;go_enter Tryz.func44,Tryz.ntmps44;go_wp2_with fail;clear e0;go_loopw [7,8] (fun sv i wr=>sv= .slice none 0 0/\i= .int .i64 0/\Hid (WkF (cellsB k t v1 v2 v3 p o n (.slice a 0 cap)) W wr)) (fun _ i _=>0)
 case atStart=>exact⟨rfl,rfl,HF0.o⟩
 case round=>
  obtain⟨rfl,rfl,HF⟩:=hrel;obtain⟨a0,-,-,-,-,-,-,a7,a8⟩:=nine HF.o.x;by_cases hr:(0:Int)<(rows:Int)
  ·go_wp2_with fail;refine(HSU.o _).mono ?_;rintro e w1 ⟨rfl,hb1⟩;have HF1:=aB (HF.o.call hb1);clear hb1 a0 a7 a8;go_wp2_with (refine bA (g:=W.heap.size+1) (i:=0) rfl rfl rfl rfl (cells3 (2,(rows:Int),[])) (HF1.o).r rfl rfl vlInfo rfl ?_)
   intro w9 hB9 hX9;obtain⟨q0,q1,q2⟩:=three3 hX9;go_wp2;refine bodyPost_ret (v:= .tuple #[VlV (2,(rows:Int),[]),.int .i64 0]) (by simp[results,Tryz.results44,go_sem,q0,q1,q2]) rfl ⟨?_,hB9.bl (HF1.o).bl (by omega)⟩;rfl
  ·go_wp2_with fail;refine(HSU.o _).mono ?_;rintro e w1 ⟨rfl,hb1⟩;have HF1:=aB (HF.o.call hb1);clear hb1 a0 a7 a8;go_wp2_with (refine bA (g:=W.heap.size+1) (i:=0) rfl rfl rfl rfl (cells3 (2,(rows:Int),[])) (HF1.o).r rfl rfl vlInfo rfl ?_)
   intro w9 hB9 hX9;obtain⟨q0,q1,q2⟩:=three3 hX9;go_wp2;refine bodyPost_ret (v:= .tuple #[VlV (2,(rows:Int),[]),.int .i64 0]) (by simp[results,Tryz.results44,go_sem,q0,q1,q2]) rfl ⟨?_,hB9.bl (HF1.o).bl (by omega)⟩;rfl
theorem sum_four20{c t:Int}{v:Vl}{p o:Int}{n:List UInt8}{l:List Bd}(h:rightD c (.mk 5 t v p o n l)=true):Four n:=by
 rw[rightD_parts] at h;simp only[aQ] at h;have hi:=h.1.1.1;simp only[isD,show((5:Int)=1)=False from by simp,show((5:Int)=2)=False from by simp,show((5:Int)=3)=False from by simp,show((5:Int)=4)=False from by simp,if_false,if_true,aQ] at hi;by_cases hf:Four n
 ·exact hf
 ·rw[(names_ways n).2 hf] at hi;exact absurd hi.1 (by decide)
theorem row_at20{W:World}{rb ro rc m:Nat}{rows:List (List Vl)}(hr:ReadsRw (fun _=>True) W (.slice (some ⟨rb,ro,none⟩) rows.length rc) rows){j:Nat}(hj:j<rows.length):ReadsRw (fun _=>True) W (.slice (some ⟨rb,ro+j,none⟩) 1 m) [rows[j]]:=by
 obtain⟨a,cap,e,h⟩:=hr;simp only[Value.slice.injEq] at e;obtain⟨rfl,-,rfl⟩:=e;obtain⟨b,off,s,e,hp,hb,hc,hv⟩:=h j _ (aP hj);simp only[Option.some.injEq,Addr.mk.injEq,and_true] at e;obtain⟨rfl,rfl⟩:=e;refine⟨_,_,rfl,fun i r hi=>?_⟩;cases i with
 |zero=>
  obtain rfl:rows[j]=r:=(by simpa using hi);exact⟨rb,ro+j,s,rfl,trivial,hb,hc,hv⟩
 |succ i=>simp at hi
theorem wwork_any(c:Int):∀(N:Nat),N<=999999->∀(x:Bd),partsD x<=N->rightD c x=true->i64D x->∀(rows:List (List Vl)),rows.length<=999999->(∀r∈rows,(r.length:Int)=c)->(∀r∈rows,rowB r=true)->(∀r∈rows,∀v∈r,IntV v)->
  ∀(W:World) (v:Value) (ra:Option Addr) (rc:Nat),rows.length<=rc->ReadsD W x v->ReadsRw (fun _=>True) W (.slice ra rows.length rc) rows->Calls Tryz.prog 44 #[v,.slice ra rows.length rc] W fun e w'=>e=VE (workD rows x)/\Bl W w':=by
 intro N
 induction N with
 |zero=>
  intro _ x hp;have:=partsD_pos x;omega
 |succ N ih=>
  intro hN x hp hr hi rows hm hlen hok hint W v ra rc hrc hv hrw;cases x with
  |mk k t v0 p o n l=>
  obtain⟨h1,h2,-⟩:=right_val hr;have hii:=(i64D_ints hi).2;have hpl:l.length<=999999:=by
   have:=parts_count l;simp only[partsD] at hp;omega
  have IH:=fun(y:Bd) (hy:y∈l)=>ih (by omega) y (by have:=partsD_arg (x:= .mk k t v0 p o n l) (y:=y) hy;omega) (rights_mem h2 hy) (i64D_args (x:= .mk k t v0 p o n l) hi hy);have hall:=fun(y:Bd) (hy:y∈l) (W':World) (v':Value) (hb:Bl W W') (hv':ReadsD W' y v')=>IH y hy rows hm hlen hok hint W' v' ra rc hrc hv' (hrw.bl hb);have hwo:(seqV (l.map (workD rows))).2=0->∀v∈(seqV (l.map (workD rows))).1,Int2 v:=fun h v hv=>by
   rw[<-works_seq] at h hv;exact⟨ok_kind (works_ok c l rows hok h2 h v hv),int_works l rows (by omega) hint hii v hv⟩
  rcases right_kinds h1 with rfl|⟨rfl,hp0,hp1⟩|rfl|rfl|⟨rfl,h5⟩
  ·rw[work_1];exact wwork_1 _ rfl W v ra _ rc hv
  ·rw[work_2];cases rows with
   |nil=>exact wwork_2n _ rfl W v ra rc hv
   |cons row rest=>
    have hl:=hlen row (by simp);obtain⟨i,rfl⟩:∃i:Nat,p=(i:Int):=⟨p.toNat,by omega⟩
    have hi2:i<row.length:=(by omega);have e:row.getD ((i:Int)).toNat zVl=row[i]:=(by simp[lY,hi2]);show Calls _ _ _ _ fun e w'=>e=VE (row.getD ((i:Int)).toNat zVl,0)/\_;rw[e];obtain⟨a,cap,e2,h⟩:=hrw;obtain⟨b,off,s,rfl,-,hb,hc,hvr⟩:=h 0 row rfl;obtain⟨e3,e4⟩:ra=some ⟨b,off,none⟩/\rc=cap:=(by simpa using e2);subst e3;exact wwork_2 _ rfl W v b off rc (row::rest).length row s (by simp) hv hc hvr i rfl hi2
  ·rw[work_3];have h:=wwork_many (.mk 3 t v0 p o n l) (.inl rfl) (workD rows) hpl W v ra rows.length rc hv hall hwo;exact h
  ·rw[work_4];have h:=wwork_many (.mk 4 t v0 p o n l) (.inr rfl) (workD rows) hpl W v ra rows.length rc hv hall hwo;exact h
  ·cases l with
   |nil=>
    obtain rfl:=h5 rfl;rw[work_5n];exact wwork_cnt _ rfl rfl rfl rows.length hm W v ra rc hv
   |cons y rest=>
    rw[work_5];have hso:(seqV (rows.map fun r=>workD [r] y)).2=0->∀v∈(seqV (rows.map fun r=>workD [r] y)).1,Int2 v:=fun h v hv=>by
     rw[<-over_seq rows y rest] at h hv;exact⟨ok_kind (over_okv c (y::rest) rows hok h2 h v hv),(int_over (y::rest) rows (by omega) hint hii).1 v hv⟩
    refine wwork_sum (.mk 5 t v0 p o n (y::rest)) y rfl rest rfl hpl (sum_four20 hr) rows hm (fun r=>workD [r] y) (fun r h=>work_zero h) W v ra rc hrc hv (fun h0=>?_) (fun j hj rb ro hra W' v' hb hv'=>?_) hso
    ·obtain⟨a,cap,e2,h⟩:=hrw;obtain⟨b,off,s,rfl,-⟩:=h 0 _ (aP h0);obtain⟨e3,-⟩:ra=some ⟨b,off,none⟩/\rc=cap:=(by simpa using e2);exact⟨b,off,e3⟩
    ·subst hra;exact IH y (by simp) [rows[j]] (by simp) (fun r hr=>by rw[gQ.1 hr];exact hlen _ (dS hj)) (fun r hr=>by rw[gQ.1 hr];exact hok _ (dS hj)) (fun r hr=>by rw[gQ.1 hr];exact hint _ (dS hj)) W' v' _ (rc-j) (by simp;omega) hv' (row_at20 (hrw.bl hb) hj)
end
end Go.Proofs.YtdbkbfkpmnpldaaGreatDoor
