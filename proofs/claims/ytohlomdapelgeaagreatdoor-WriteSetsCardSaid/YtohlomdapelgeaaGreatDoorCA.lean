/- Texts M0 MB MP MV MG. -/
import Derived.WalkKit
import Derived.WalkSpells
import Derived.Laws.Bits64
import Derived.StillTailTactics
import Derived.Lib.Hide
import Derived.MapKept
import Derived.Deep.RegionHeld3
import Derived.Lib.Replace
import Derived.Lib.ReplaceLaws
import Derived.Lib.CountLaws
import Derived.Lib.Strings
import GoSem.Core.Utf8
import Derived.Lib.Bytealg
import Derived.Lib.SlTrimSet
import Derived.Laws.Entries
import Derived.Lib.ParseIntB
import Derived.Lib.ItoaMem
import Derived.Lib.ItoaLen
import Derived.Test.YtohlomdapelgeaaGreatDoorProg
import Derived.WalkLawsBesides
import Derived.Defers
import Derived.Recover
import Derived.Test.YtohlomdapelgeaaGreatDoorCS
import Derived.Shelf.Strings.BuilderK
import Derived.ShutString
import Derived.Laws.IdiomStrings
import Derived.Sort.Grow
import Derived.Lib.QuietBelow
import Derived.Lib.OthersKept
import Derived.Deep.AppendLies
import Derived.Lib.ParseIntBTie
import Derived.Lib.ConvBytes
namespace Go.Proofs.YtohlomdapelgeaaGreatDoor
open _root_.Go.Proofs.Tryz
open Go.RowKit
open Go.RowKit Go.Shelf
open Go.Sort (grow)
set_option maxRecDepth 100000
set_option maxHeartbeats 2000000
theorem aE{P:Prop}(h:P:=by omega):P:=h
theorem aa{P:Prop}(h:P:=by simp):P:=h
theorem ab{P:Prop}(h:P:=by rfl):P:=h
theorem ae{P:Prop}(h:P:=by decide):P:=h
theorem af{P:Prop}(h:P:=by kernel_rfl):P:=h
theorem ak{P:Prop}(h:P:=by simp;omega):P:=h
theorem am{P:Prop}(h:P:=by rw[aR];omega):P:=h
theorem an{P:Prop}(h:P:=by simp[go_sem]):P:=h
theorem ap{P:Prop}(h:P:=by first |exact(hb.block _ (lt_of_heap hY)).trans hY|exact(hb.block _ (lt_of_heap HEX.o)).trans HEX.o):P:=h
theorem aq{P:Prop}(h:P:=by cases h):P:=h
theorem ar{P:Prop}(h:P:=by first |rfl|(simp[jG,yielded];done)|(simp[jG,yielded];omega)):P:=h
theorem au{P:Prop}(h:P:=by intro w hSw;(try dsimp only at hSw);skip;go_simp;(try(first |with_reducible rfl|rfl))):P:=h
theorem av{P:Prop}(h:P:=by simpa using hl'):P:=h
theorem ax{P:Prop}(h:P:=by first |exact HF5.o.r|exact HF2.o.r):P:=h
theorem ay{P:Prop}(h:P:=by intro w hSw;(try dsimp only at hSw);have d0:=cell_of (i:=0) hSw rfl;go_simp;(try(first |with_reducible rfl|rfl))):P:=h
theorem az{P:Prop}(h:P:=by first |exact hY|exact(aW _ _ (aC.1 hY).1).trans hY):P:=h
theorem ba{P:Prop}(h:P:=by simpa using e):P:=h
theorem bb{P:Prop}(h:P:=by simpa using h):P:=h
theorem bc{P:Prop}(h:P:=by first |rfl|exact hr5):P:=h
theorem bd{P:Prop}(h:P:=by rw[hs]):P:=h
theorem be{P:Prop}(h:P:=by show W.heap.size+1≠W.heap.size+2;omega):P:=h
theorem bk{P:Prop}(h:P:=by rw[HCL.o];decide):P:=h
theorem bm{P:Prop}(h:P:=by rw[Lib.cell_of_heap hV];rfl):P:=h
theorem bp{P:Prop}(h:P:=by simpa using e1):P:=h
theorem br{P:Prop}(h:P:=by rw[<-HR0.o];exact HNE.o):P:=h
theorem bu{P:Prop}(h:P:=by rw[size_of_list];omega):P:=h
theorem bv{P:Prop}(h:P:=by first |exact hs|simp):P:=h
theorem bz{P:Prop}(h:P:=by rw[aR];exact hat):P:=h
theorem cA{P:Prop}(h:P:=by simpa using h0):P:=h
theorem cC{P:Prop}(h:P:=by simpa using h1):P:=h
theorem cD{P:Prop}(h:P:=by simpa using hj):P:=h
theorem cE{P:Prop}(h:P:=by simp[chk, *]):P:=h
theorem cF{P:Prop}(h:P:=by first |rfl|(simp[jG,yielded];done)):P:=h
theorem cG{P:Prop}(h:P:=by unfold maxLen;omega):P:=h
theorem cH{P:Prop}(h:P:=by simpa using h2):P:=h
theorem cI{P:Prop}(h:P:=by simpa using ht):P:=h
theorem cJ{P:Prop}(h:P:=by intro w hSw;(try dsimp only at hSw);have d3:=cell_of (i:=3) hSw rfl;go_simp;(try(first |with_reducible rfl|rfl))):P:=h
theorem cL{P:Prop}(h:P:=by first |exact(HF2.o.bl ((Bl.refl _).alloc _)).r|exact((HF0.o.bl HWD.o).bl ((Bl.refl _).alloc _)).r):P:=h
theorem cM{P:Prop}(h:P:=by first |exact(HF0.o.bl HWD.o).bl hb2|exact((HF0.o.bl HWD.o).bl ((Bl.refl _).alloc _)).bl hb2):P:=h
theorem cN{P:Prop}(h:P:=by first |exact(HB0.o.call HWD.o).call hb2|exact((HB0.o.call HWD.o).alloc _).call hb2):P:=h
theorem cP{P:Prop}(h:P:=by simp[results,Tryz.results378,go_sem,q0,q1,q2,q3,q4,q5,q6,q7]):P:=h
theorem cQ{P:Prop}(h:P:=by first |exact H.o.bl (HW2.o.alloc _)|exact H.o.bl HW2.o):P:=h
theorem cR{P:Prop}(h:P:=by simp[results,Tryz.results242,go_sem,y0,y1,y2]):P:=h
theorem cS{P:Prop}(h:P:=by have:=(HWD.o.call hb3).size;rw[aR];omega):P:=h
theorem cU{P:Prop}(h:P:=by have:=HWD.o.size;simp at this;omega):P:=h
theorem cV{P:Prop}(h:P:=by rw[Lib.cell_of_heap hres3];rfl):P:=h
theorem cW{P:Prop}(h:P:=by rw[Lib.cell_of_heap hres5];rfl):P:=h
theorem cX{P:Prop}(h:P:=by rw[Lib.cell_of_heap hres6];rfl):P:=h
theorem cY{P:Prop}(h:P:=by rw[Lib.cell_of_heap hA];rfl):P:=h
theorem cd{P:Prop}(h:P:=by rw[HCL.o];exact whenSome):P:=h
theorem ce{P:Prop}(h:P:=by simp[chk,hs,Ne.symm n0]):P:=h
theorem cf{P:Prop}(h:P:=by first |omega|simp):P:=h
theorem ck{P:Prop}(h:P:=by simpa using h3):P:=h
theorem cm{P:Prop}(h:P:=by simpa using h4):P:=h
theorem cq{P:Prop}(h:P:=by simpa using f1):P:=h
theorem cr{P:Prop}(h:P:=by simpa using e3):P:=h
theorem ct{P:Prop}(h:P:=by rw[hk];decide):P:=h
theorem cv{P:Prop}(h:P:=by intro w hSw;(try dsimp only at hSw);have d51:=cell_of (i:=51) hSw rfl;rw[en] at d51;go_simp;(try(first |with_reducible rfl|rfl))):P:=h
theorem cz{P:Prop}(h:P:=by intro w hSw;(try dsimp only at hSw);have d51:=cell_of (i:=51) hSw rfl;go_simp;(try(first |with_reducible rfl|rfl))):P:=h
theorem dT{P:Prop}(h:P:=by simp only[Job.most,Job.at,Job.rank];omega):P:=h
theorem da{P:Prop}(h:P:=by show W.heap.size≠W.heap.size+2;omega):P:=h
theorem db{P:Prop}(h:P:=by rw[HCL.o];exact whenInfo):P:=h
theorem dc{P:Prop}(h:P:=by first |rfl|exact HONE2.o):P:=h
theorem de{P:Prop}(h:P:=by rw[HCL.o];exact setInfo):P:=h
theorem dk{P:Prop}(h:P:=by rw[hb.size];exact aH _):P:=h
theorem dl{P:Prop}(h:P:=by intro w hSw;(try dsimp only at hSw);have d30:=cell_of (i:=30) hSw rfl;have d32:=cell_of (i:=32) hSw rfl;go_simp;(try(first |with_reducible rfl|rfl))):P:=h
theorem dm{P:Prop}(h:P:=by intro w hSw;(try dsimp only at hSw);have d9:=cell_of (i:=9) hSw rfl;go_simp;(try(first |with_reducible rfl|rfl))):P:=h
theorem dq{P:Prop}(h:P:=by injection hH with a b;injection b with b c;exact⟨a.symm,b.symm,c.symm⟩):P:=h
theorem dr{P:Prop}(h:P:=by simp[results,Tryz.results335,go_sem,q0,q1,q2,q3,q4,q5,q6,q7]):P:=h
theorem dt{P:Prop}(h:P:=by show i≠W.heap.size+1+1;have:=hi.1;omega):P:=h
theorem du{P:Prop}(h:P:=by unfold iD;rw[HX.o,HT.o];simp[HU.o,HH.o]):P:=h
theorem dv{P:Prop}(h:P:=by show W.heap.size+3≠W.heap.size+2;omega):P:=h
theorem dz{P:Prop}(h:P:=by simp[results,Tryz.results258,go_sem]):P:=h
theorem eA{P:Prop}(h:P:=by first |exact HF3.o.r|exact HF2.o.r):P:=h
theorem eC{P:Prop}(h:P:=by first |exact HF7.o.r|exact HF5.o.r):P:=h
theorem eE{P:Prop}(h:P:=by unfold iD;rw[HX.o];simp[HU.o]):P:=h
theorem eI{P:Prop}(h:P:=by rw[size_of_list];exact hlt):P:=h
theorem eJ{P:Prop}(h:P:=by intro w hSw;(try dsimp only at hSw);have d32:=cell_of (i:=32) hSw rfl;rw[et] at d32;go_simp;(try(first |with_reducible rfl|rfl))):P:=h
theorem eK{P:Prop}(h:P:=by intro w hSw;(try dsimp only at hSw);have d32:=cell_of (i:=32) hSw rfl;go_simp;(try(first |with_reducible rfl|rfl))):P:=h
theorem eL{P:Prop}(h:P:=by simp[results,Tryz.results379,go_sem,q0,q1,q2,q3,q4,q5,q6,q7]):P:=h
theorem eM{P:Prop}(h:P:=by rw[kC,beq_iff_eq,beq_iff_eq];exact eq_comm):P:=h
theorem eN{P:Prop}(h:P:=by show w.heap.size+1≠w.heap.size+1+1;omega):P:=h
theorem eR{P:Prop}(h:P:=by show w.heap.size<=w.heap.size+1+1;omega):P:=h
theorem eS{P:Prop}(h:P:=by show w.heap.size≠w.heap.size+1+1;omega):P:=h
theorem eV{P:Prop}(h:P:=by show W.heap.size+2≠W.heap.size+1;omega):P:=h
theorem eW{P:Prop}(h:P:=by show W.heap.size<=W.heap.size+1;omega):P:=h
theorem ed{P:Prop}(h:P:=by rw[HRF.o];(try simp only);rw[hr5];rfl):P:=h
theorem ee{P:Prop}(h:P:=by show W.heap.size≠W.heap.size+1;omega):P:=h
theorem ef{P:Prop}(h:P:=by simp[results,Tryz.results284,go_sem]):P:=h
abbrev eg:=Calls prog
section
theorem _root_.Go.RowKit.Hid.o{p:Prop}(h:Hid p):p:=h
theorem _root_.Go.Shut.o{p:Prop}(h:Shut p):p:=h
theorem a8w(n:Int):bits BinOp.and IntKind.i64 n 1=n % 2:=by
 show IntKind.i64.wrap ((BitVec.ofInt 64 n&&& BitVec.ofInt 64 1).toNat:Int)=_;rw[BitVec.toNat_and];have h1:(BitVec.ofInt 64 1).toNat=1:=ae;have h2:(BitVec.ofInt 64 n).toNat=(n % 18446744073709551616).toNat:=by
  rw[BitVec.toNat_ofInt];rfl
 rw[h1,h2,Nat.and_one_is_mod,IntKind.wrap_i64];omega
theorem b7q(n:Nat)(h:n<256):bits BinOp.and IntKind.u8 (n:Int) 15=((n % 16:Nat):Int):=by
 show IntKind.u8.wrap ((BitVec.ofInt 8 (n:Int)&&& BitVec.ofInt 8 15).toNat:Int)=_;rw[BitVec.toNat_and];have h1:(BitVec.ofInt 8 15).toNat=15:=ae;have h2:(BitVec.ofInt 8 (n:Int)).toNat=n:=by
  rw[BitVec.ofInt_natCast,BitVec.toNat_ofNat];exact Nat.mod_eq_of_lt aE
 rw[h1,h2,show n&&& 15=n % 16 from Nat.and_two_pow_sub_one_eq_mod n 4];have:n % 16<256:=aE;simp[IntKind.wrap,IntKind.bits,IntKind.signed];omega
theorem yJ(n:Int):bits BinOp.and IntKind.i64 n 1=n↔n=0\/n=1:=by
 rw[a8w];omega
abbrev Bl(a w:World):Prop:=Below a.heap.size a w
theorem Bl.refl(a:World):Bl a a:=Below.refl _ _
theorem Bl.alloc{a w:World}(h:Bl a w)(o:Obj):Bl a (w.alloc o):=Below.alloc h h.size o
theorem Bl.drew{a w:World}(h:Bl a w):Bl a w.drew:=Below.drew h
theorem Bl.call{a w w':World}(h:Bl a w)(k:Bl w w'):Bl a w':=Below.trans h (k.mono h.size)
theorem Bl.set{a w:World}(h:Bl a w){p:Addr}(hp:a.heap.size<=p.block)(v:Value):Bl a (w.setCell p v):=Below.setCell h hp v
theorem Bl.cell{a w:World}(h:Bl a w){p:Addr}{v:Value}(hp:a.cell? p=some v):w.cell? p=some v:=cell_later h hp
theorem Bl.frozen{a w:World}(h:Bl a w){p:Addr}{v:Value}(hp:a.cell? p=some v)(hz:a.frozen? p=false):w.frozen? p=false:=(Below.frozen h (World.block_lt_of_cell? _ _ hp)).trans hz
theorem c4a{W w1:World}(hb:Below W.heap.size W w1):(∀b o,b<W.heap.size->w1.cell? ⟨b,o,none⟩=W.cell? ⟨b,o,none⟩)/\(∀b o,b<W.heap.size->w1.frozen? ⟨b,o,none⟩=W.frozen? ⟨b,o,none⟩):=
 ⟨fun b o h=>hb.cell (p:=⟨b,o,none⟩) h,fun b o h=>hb.frozen (p:=⟨b,o,none⟩) h⟩
theorem aN(w:World)(o:Obj):(w.alloc o).heap[w.heap.size]?=some o:=by show(w.heap.push _)[w.heap.size]?=_;simp
theorem aW(w:World)(o:Obj){k:Nat}(h:k<w.heap.size):(w.alloc o).heap[k]?=w.heap[k]?:=Below.heap_alloc _ _ _ h
theorem aV(w:World)(o:Obj){k:Nat}(h:k=w.heap.size):(w.alloc o).heap[k]?=some o:=by subst h;exact aN w o
theorem dM{w:World}{p q:Addr}{u v:Value}(h:w.cell? q=some v)(hpq:q.block≠p.block):(w.setCell p u).cell? q=some v:=by
 rw[World.cell?_of_block (w:=w) (Below.heap_setCell _ _ _ _ hpq)];exact h
theorem dE{w:World}{p q:Addr}{u v:Value}(h:w.cell? q=some v)(hpq:p≠q):(w.setCell p u).cell? q=some v:=by
 rw[World.cell?_setCell_other _ _ _ _ hpq];exact h
theorem eF{w:World}{p:Addr}{u v:Value}(h:w.cell? p=some v):(w.setCell p u).cell? p=some u:=World.cell?_setCell_same' _ _ _ (by rw[h];rfl)
theorem lI{k:IntKind}{a b:Int}(h:a=b):Ending.returned (.int k a)= .returned (.int k b):=by rw[h]
theorem nX{a b:Bool}(h:a=b):Ending.returned (.bool a)= .returned (.bool b):=by rw[h]
end
section
theorem eQ{P:Program}{T kt et:TypeId}(hT:P.underlying T=some (.map kt et))(hK:P.underlying kt=some (.int .i64))(w:World)(es:Array MapEntry)(clock:Nat)(n:Int)(v:Value)
  (h:Instr.findNow (.int .i64) (.int .i64 n) es.toList 0=some none):
  (Instr.mapUpdate T (.map (some w.heap.size)) (.int .i64 n) v).run P (w.alloc (.map es clock))= .ok () (w.alloc (.map (es.push {key:= .int .i64 n,val:=v,born:=clock}) (clock+1))):=by
 have hb:(w.alloc (.map es clock)).heap[w.heap.size]?=some (.map es clock):=(by show(w.heap.push _)[w.heap.size]?=_;simp);have h1:=MapKept.run_getObj_map (P:=P) hb;have h2:=MapKept.run_checkKey (P:=P) (w:=w.alloc (.map es clock)) (k:= .int .i64 n) hK (by trivial) false 9999;have h3:=MapKept.run_findKey (P:=P) (w:=w.alloc (.map es clock)) hK h;have h4:=MapKept.run_setObj_map (P:=P) (.map (es.push {key:= .int .i64 n,val:=v,born:=clock}) (clock+1)) hb;have h5:({(w.alloc (.map es clock)) with heap:=(w.alloc (.map es clock)).heap.setIfInBounds w.heap.size (.map (es.push {key:= .int .i64 n,val:=v,born:=clock}) (clock+1))}:World)=w.alloc (.map (es.push {key:= .int .i64 n,val:=v,born:=clock}) (clock+1)):=by
  have e:(w.heap.push (Obj.map es clock)).setIfInBounds w.heap.size (.map (es.push {key:= .int .i64 n,val:=v,born:=clock}) (clock+1))=w.heap.push (.map (es.push {key:= .int .i64 n,val:=v,born:=clock}) (clock+1)):=by
   apply Array.ext_getElem?;intro i;rw[Array.getElem?_setIfInBounds,Array.getElem?_push,Array.getElem?_push];by_cases h:w.heap.size=i
   ·subst h;simp
   ·simp[h,Ne.symm h]
  show({w with heap:=_}:World)={w with heap:=_}
  exact congrArg (fun h=>({w with heap:=h}:World)) e
 simp only[Instr.mapUpdate,Sem.run_bind,run_underlying hT,Result.andThen,h1,h2,h3];rw[h4,h5]
theorem eP{P:Program}{T kt et:TypeId}(hT:P.underlying T=some (.map kt et))(hK:P.underlying kt=some (.int .i64)){w:World}{r:Nat}{es:Array MapEntry}{clock:Nat}(hb:w.heap[r]?=some (.map es clock)){n:Int}{i:Nat}{v:Value}
  (h:Instr.findNow (.int .i64) (.int .i64 n) es.toList 0=some (some (i,v))):
  (Instr.lookup T (.map (some r)) (.int .i64 n) false).run P w= .ok v w:=by
 have h1:=MapKept.run_getObj_map (P:=P) hb;have h2:=MapKept.run_checkKey (P:=P) (w:=w) (k:= .int .i64 n) hK (by trivial) es.isEmpty 9999;have h3:=MapKept.run_findKey (P:=P) (w:=w) hK h;simp[Instr.lookup,Sem.run_bind,run_underlying hT,Result.andThen,h1,h2,h3]
end
section
variable {P:Program} {ops:Array Oper} {Q:Exit->Act->World->Prop} {S:World->Prop}
theorem uZ{ops:Array Oper}{i:Nat}{o:Oper}{r:List Oper}(h:ops.toList.drop i=o::r):ops[i]?=some o:=by
 have h0:(ops.toList.drop i)[0]?=some o:=(by rw[h];rfl);rw[List.getElem?_drop,Nat.add_zero,Array.getElem?_toList] at h0;exact h0
end
section
inductive Sc where
 |done
 |take (i:Nat) (s:Sc)
 |one (i:Nat) (s:Sc)
 |two (i j:Nat) (s t:Sc)
def scB(ops:Array Oper):Nat->Sc->Array Bool->Bool
 |n,.done,listed=>n==0&&(Region.ready .any ops listed).isEmpty
 |0,.take _ _,_=>false
 |n+1,.take i s,listed=>Region.free .any ops listed i&&(Region.ready .any ops listed).contains i&&scB ops n s (listed.setIfInBounds i true)
 |0,.one _ _,_=>false
 |n+1,.one i s,listed=>(Region.ready .any ops listed==[i])&&scB ops n s (listed.setIfInBounds i true)
 |0,.two _ _ _ _,_=>false
 |n+1,.two i j s t,listed=>(Region.ready .any ops listed==[i,j])&&scB ops n s (listed.setIfInBounds i true)&&scB ops n t (listed.setIfInBounds j true)
def a2w(P:Program)(ops:Array Oper)(Q:Exit->Act->World->Prop)(S:World->Prop):Sc->Act->World->Prop
 | .done,a,w=>Q .normal a w
 | .take i s,a,w=>∃o v,ops[i]?=some o/\YieldsIf P ops S o v a/\a2w P ops Q S s (a.put o.dst v) w
 | .one i s,a,w=>wpOp P ops Q i (fun a' w'=>S w'/\a2w P ops Q S s a' w') a w
 | .two i j s t,a,w=>wpOp P ops Q i (fun a' w'=>S w'/\a2w P ops Q S s a' w') a w/\wpOp P ops Q j (fun a' w'=>S w'/\a2w P ops Q S t a' w') a w
variable {P:Program} {ops:Array Oper} {Q:Exit->Act->World->Prop} {S:World->Prop}
theorem a5f(hs:Region.noSelect ops=true)(hQ:∀(c:_) (a:Act) (d:Option Tmp) (v:Value) (w:World),Q (.panic c) (a.put d v) w->Q (.panic c) a w):
  ∀(s:Sc) (n:Nat) (listed:Array Bool) (a:Act) (w:World),scB ops n s listed=true->S w->a2w P ops Q S s a w->wpAnyH P .any ops Q S n listed a w
 | .done,n,listed,a,w,hB,_,h=>by
  simp only[scB,Bool.and_eq_true,beq_iff_eq] at hB;obtain⟨rfl,hB⟩:=hB;exact wpAnyH_done (by simpa using hB) h _
 | .take i s,0,_,_,_,hB,_,_=>by simp[scB] at hB
 | .take i s,n+1,listed,a,w,hB,hS,h=>by
  simp only[scB,Bool.and_eq_true] at hB;obtain⟨o,v,ho,hy,h⟩:=h;exact wpAnyH_take ho hs hB.1.1 hB.1.2 (fun c a w=>hQ c a _ _ w) hy hS (a5f hs hQ s _ _ _ _ hB.2 hS h)
 | .one i s,0,_,_,_,hB,_,_=>by simp[scB] at hB
 | .one i s,n+1,listed,a,w,hB,hS,h=>by
  simp only[scB,Bool.and_eq_true,beq_iff_eq] at hB;refine wpAnyH_all hB.1 aa ?_;intro j hj;obtain rfl:j=i:=cD;exact wpOp_mono (fun a' w' hk=>⟨hk.1,a5f hs hQ s _ _ _ _ hB.2 hk.1 hk.2⟩) h
 | .two i k s t,0,_,_,_,hB,_,_=>by simp[scB] at hB
 | .two i k s t,n+1,listed,a,w,hB,hS,h=>by
  simp only[scB,Bool.and_eq_true,beq_iff_eq] at hB;refine wpAnyH_all hB.1.1 aa ?_;intro j hj;have hj':j=i\/j=k:=cD;rcases hj' with rfl|rfl
  ·exact wpOp_mono (fun a' w' hk=>⟨hk.1,a5f hs hQ s _ _ _ _ hB.1.2 hk.1 hk.2⟩) h.1
  ·exact wpOp_mono (fun a' w' hk=>⟨hk.1,a5f hs hQ t _ _ _ _ hB.2 hk.1 hk.2⟩) h.2
theorem qP{id:Nat}{a:Act}{w:World}(S:World->Prop)(s:Sc)(hm:P.follows .mixedOrders=true)(hs:Region.noSelect ops=true)(hB:scB ops ops.size s (Array.replicate ops.size false)=true)
  (hQ:∀(c:_) (a:Act) (d:Option Tmp) (v:Value) (w:World),Q (.panic c) (a.put d v) w->Q (.panic c) a w) (hS:S w.drew) (h:a2w P ops Q S s a w.drew):(Code.region id ops true).wp P Q a w:=
 wp_region_held hm (a5f hs hQ s _ _ a _ hB hS h)
theorem fO{a:Act}{w:World}(h:Q .normal a w):a2w P ops Q S .done a w:=h
theorem aI{i:Nat}{s:Sc}{a:Act}{w:World}{o:Oper}{v:Value}{r:List Oper}(ho:ops.toList.drop i=o::r)(hw:Region.wanted o (yielded ops a.tmps)=true)(hy:∀w,S w->(execOp a.eval o).run P w= .ok (.value v) w)
  (h:a2w P ops Q S s (a.put o.dst v) w):a2w P ops Q S (.take i s) a w:=⟨o,v,uZ ho,.inl ⟨hw,hy⟩,h⟩
theorem cT{i:Nat}{s:Sc}{a a':Act}{w:World}{o:Oper}{v:Value}{r:List Oper}(h:a2w P ops Q S s a' w)(ho:ops.toList.drop i=o::r:=by rfl)(hw:Region.wanted o (yielded ops a.tmps)=true:=by rfl)
  (hy:∀w,S w->(execOp a.eval o).run P w= .ok (.value v) w:=by intro w hSw;(try dsimp only at hSw);(try have a0:=cK hSw);(try have a0:=cK hSw.1);(try obtain⟨a0,a1,-,-,-⟩:=aU hSw.1);(try obtain⟨⟨e0,e1,e2,e3,e4,e5,e6,e7⟩,-⟩:=eight hSw);(try obtain⟨⟨e0,e1,e2,e3,e4,e5,e6,e7⟩,-⟩:=eight hSw.2);go_simp;(try(first |with_reducible rfl|rfl)))
  (hp:a.put o.dst v=a':=by(try simp only[Act.put,List.setIfInBounds_toArray,List.set_cons_zero,List.set_cons_succ]);rfl):a2w P ops Q S (.take i s) a w:=by subst hp;exact aI ho hw hy h
theorem dK{i:Nat}{s:Sc}{a:Act}{w:World}{o:Oper}{r:List Oper}(ho:ops.toList.drop i=o::r)(hw:Region.wanted o (yielded ops a.tmps)=false)
  (h:a2w P ops Q S s (a.put o.dst undef) w):a2w P ops Q S (.take i s) a w:=⟨o,undef,uZ ho,.inr ⟨hw,rfl⟩,h⟩
theorem aL{i:Nat}{s:Sc}{a:Act}{w:World}{o:Oper}{r:List Oper}(ho:ops.toList.drop i=o::r)
  (h:∀K:Act->World->Prop,Shut (∀a' w',S w'->(S w'->a2w P ops Q S s a' w')->K a' w')->if Region.wanted o (yielded ops a.tmps)=true then Oper.wp P o a w K Q else K (a.put o.dst undef) w):
  a2w P ops Q S (.one i s) a w:=wpOp_step (uZ ho) (fun K hK=>h K (fun a' w' hS hW=>hK a' w' ⟨hS,hW hS⟩))
theorem sZ{i j:Nat}{s t:Sc}{a:Act}{w:World}(h1:a2w P ops Q S (.one i s) a w)(h2:a2w P ops Q S (.one j t) a w):a2w P ops Q S (.two i j s t) a w:=⟨h1,h2⟩
end
section
theorem nY{old new:List UInt8}(ho:old≠[]):Lib.replaceAll [] old new=[]:=by
 have hi:Lib.index [] old= -1:=(by cases old<;>simp_all [Lib.index]);unfold Lib.replaceAll Lib.replace;split
 ·rfl
 ·rw[Lib.replaceNum,if_pos aa,Lib.count_miss hi];rfl
theorem vJ{s old new:List UInt8}(ho:old≠[])(hn:old≠new)(h:old.isPrefixOf s=true):Lib.replaceAll s old new=new++Lib.replaceAll (s.drop old.length) old new:=by
 have hi:Lib.index s old=(0:Nat):=by
  cases s with
  |nil=>cases old<;>simp_all
  |cons b l=>simp[Lib.index,h]
 have hne:(old==new)=false:=(by simpa using hn);unfold Lib.replaceAll Lib.replace;rw[hne];simp only[Lib.replaceNum,Bool.false_eq_true,if_false];rw[if_pos aa,if_pos aa,Lib.count_hit ho hi,Nat.add_comm,Lib.replaceK_hit _ _ _ _ 0 hi];simp
theorem pW{b:UInt8}{l old new:List UInt8}(ho:old≠[])(hn:old≠new)(h:old.isPrefixOf (b::l)=false):Lib.replaceAll (b::l) old new=b::Lib.replaceAll l old new:=by
 have hne:(old==new)=false:=(by simpa using hn);unfold Lib.replaceAll Lib.replace;rw[hne];simp only[Lib.replaceNum,Bool.false_eq_true,if_false];rw[if_pos aa,if_pos aa];rcases Lib.index_spec l old with⟨hi,_⟩|⟨i,hi,_⟩
 ·have hi':Lib.index (b::l) old= -1:=by simp[Lib.index,h,hi]
  rw[Lib.count_miss hi,Lib.count_miss hi'];rfl
 ·have hi':Lib.index (b::l) old=(i+1:Nat):=by
   simp[Lib.index,h,hi]
  rw[Lib.count_hit ho hi,Lib.count_hit ho hi',Nat.add_comm 1,Nat.add_comm 1,Lib.replaceK_hit _ _ _ _ (i+1) hi',Lib.replaceK_hit _ _ _ _ i hi];have e:i+1+old.length=(i+old.length)+1:=aE;rw[e];simp
def dbl:List UInt8->List UInt8
 |[]=>[]
 |c::r=>if c=39 then 39::39::dbl r else c::dbl r
theorem a1k(l:List UInt8):Lib.replaceAll l [39] [39,39]=dbl l:=by
 induction l with
 |nil=>exact nY aa
 |cons c r ih=>
  unfold dbl;by_cases h:c=39
  ·subst h;rw[vJ aa aa aa,if_pos rfl];simp[ih]
  ·rw[pW aa aa (by simp[List.isPrefixOf,Ne.symm h]),if_neg h,ih]
theorem a2n(l:List UInt8):(dbl l).length<=2 * l.length:=by
 induction l with
 |nil=>simp[dbl]
 |cons c r ih=>unfold dbl;split<;>simp<;>omega
def pairs(x:UInt8):List UInt8->List UInt8
 |[]=>[]
 |[c]=>[c]
 |c::d::r=>if c=39/\d=39 then x::pairs x r else c::pairs x (d::r)
theorem yS(x:UInt8):∀(n:Nat) (l:List UInt8),l.length<=n->Lib.replaceAll l [39,39] [x]=pairs x l:=by
 intro n
 induction n with
 |zero=>
  intro l h;obtain rfl:l=[]:=by simpa using h
  exact nY aa
 |succ n ih=>
  intro l h
  match l,h with
  |[],_=>exact nY aa
  |[c],_=>rw[pW aa aa (by simp[List.isPrefixOf]),nY aa];rfl
  |c::d::r,h=>
   unfold pairs;by_cases hc:c=39/\d=39
   ·obtain⟨rfl,rfl⟩:=hc;rw[vJ aa aa aa,if_pos ⟨rfl,rfl⟩];simp only[List.length_cons] at h;simp[ih r aE]
   ·rw[pW aa aa (by simp[List.isPrefixOf];exact fun e1 e2=>hc ⟨e1.symm,e2.symm⟩),if_neg hc,ih (d::r) (by simp at h⊢;omega)]
theorem yB(x:UInt8):∀(n:Nat) (l:List UInt8),l.length<=n->(pairs x l).length<=l.length:=by
 intro n
 induction n with
 |zero=>
  intro l h;obtain rfl:l=[]:=by simpa using h
  simp[pairs]
 |succ n ih=>
  intro l h
  match l,h with
  |[],_=>simp[pairs]
  |[c],_=>simp[pairs]
  |c::d::r,h=>
   simp only[List.length_cons] at h;unfold pairs;split
   ·have:=ih r aE;simp;omega
   ·have:=ih (d::r) ak;simp at this⊢;omega
end
section
theorem a3t(l:List UInt8)(i:Nat):(⟨l.toArray⟩:ByteArray).get! i=l.getD i 0:=by
 show l.toArray[i]! =_;simp[List.getD];rfl
theorem yH(l:List UInt8)(i:Nat)(h:i<l.length):
  1<=(Utf8.decode ⟨l.toArray⟩ i).2/\i+(Utf8.decode ⟨l.toArray⟩ i).2<=l.length/\((Utf8.decode ⟨l.toArray⟩ i).1=39↔l[i]?=some 39)/\(∀j,i<j->j<i+(Utf8.decode ⟨l.toArray⟩ i).2->l[j]?≠some 39):=by
 have hsz:(⟨l.toArray⟩:ByteArray).size=l.length:=(by show l.toArray.size=_;simp);have e0:l[i]?=some (l.getD i 0):=(by simp[h]);have q0:l[i]?=some 39↔(l.getD i 0).toNat=39:=by
  rw[e0];constructor
  ·intro e;injection e with e;rw[e];rfl
  ·intro e;congr 1;exact UInt8.toNat_inj.1 e
 have far:∀j,128<=(l.getD j 0).toNat->l[j]?≠some 39:=by
  intro j hj e;have:l.getD j 0=39:=(by simp[List.getD,e]);rw[this] at hj;exact absurd hj ae
 unfold Utf8.decode;simp only[a3t,hsz,Nat.add_zero];generalize hb0:(l.getD i 0).toNat=b0 at *;have f1:=far (i+1);have f2:=far (i+2);have f3:=far (i+3);generalize hb1:(l.getD (i+1) 0).toNat=b1 at *;generalize hb2:(l.getD (i+2) 0).toNat=b2 at *;generalize hb3:(l.getD (i+3) 0).toNat=b3 at *;rw[q0];clear q0 e0 far;by_cases c0:b0<128
 ·rw[if_pos c0];exact⟨Nat.le_refl _,by simp;omega,by simp,fun j h1 h2=>by simp at h2;omega⟩
 rw[if_neg c0];split
 ·rename_i c1;simp only[Bool.and_eq_true,beq_iff_eq,decide_eq_true_eq] at c1;split
  ·refine⟨by simp,by simp;omega,by simp;omega,fun j h1 h2=>?_⟩;simp at h2;obtain rfl:j=i+1:=aE;exact f1 aE
  ·exact⟨Nat.le_refl _,by simp;omega,by simp[Utf8.runeError];omega,fun j h1 h2=>by simp at h2;omega⟩
 split
 ·rename_i c1;simp only[Bool.and_eq_true,beq_iff_eq,decide_eq_true_eq] at c1;split
  ·rename_i c2;simp only[Bool.and_eq_true,decide_eq_true_eq] at c2;refine⟨by simp,by simp;omega,by simp;omega,fun j h1 h2=>?_⟩;simp at h2;have hj:j=i+1\/j=i+2:=aE;rcases hj with rfl|rfl
   ·exact f1 aE
   ·exact f2 aE
  ·exact⟨Nat.le_refl _,by simp;omega,by simp[Utf8.runeError];omega,fun j h1 h2=>by simp at h2;omega⟩
 split
 ·rename_i c1;simp only[Bool.and_eq_true,beq_iff_eq,decide_eq_true_eq] at c1;split
  ·rename_i c2;simp only[Bool.and_eq_true,decide_eq_true_eq] at c2;refine⟨by simp,by simp;omega,by simp;omega,fun j h1 h2=>?_⟩;simp at h2;have hj:j=i+1\/j=i+2\/j=i+3:=aE;rcases hj with rfl|rfl|rfl
   ·exact f1 aE
   ·exact f2 aE
   ·exact f3 aE
  ·exact⟨Nat.le_refl _,by simp;omega,by simp[Utf8.runeError];omega,fun j h1 h2=>by simp at h2;omega⟩
 ·exact⟨Nat.le_refl _,by simp;omega,by simp[Utf8.runeError];omega,fun j h1 h2=>by simp at h2;omega⟩
def odd(l:List UInt8)(n:Nat):Bool:=(l.take n).contains 39
theorem b9u(l:List UInt8):odd l 0=false:=by simp[odd]
theorem c3i(l:List UInt8):odd l l.length=l.contains 39:=by simp[odd]
theorem b9v(l:List UInt8)(i:Nat)(h:i<l.length):odd l (i+(Utf8.decode ⟨l.toArray⟩ i).2)=(odd l i||decide ((Utf8.decode ⟨l.toArray⟩ i).1=39)):=by
 obtain⟨h1,h2,h3,h4⟩:=yH l i h;generalize (Utf8.decode ⟨l.toArray⟩ i).2=d at *;generalize (Utf8.decode ⟨l.toArray⟩ i).1=r at *;rw[Bool.eq_iff_iff];simp only[odd,List.contains_iff_mem,Bool.or_eq_true,decide_eq_true_eq,List.mem_iff_getElem?,List.getElem?_take,h3];constructor
 ·rintro⟨j,hj⟩;split at hj
  ·rename_i hlt;by_cases hji:j<i
   ·exact .inl ⟨j,by rw[if_pos hji];exact hj⟩
   ·by_cases e:j=i
    ·subst e;exact .inr hj
    ·exact absurd hj (h4 j aE hlt)
  ·cases hj
 ·rintro(⟨j,hj⟩|hj)
  ·split at hj
   ·exact⟨j,by rw[if_pos aE];exact hj⟩
   ·cases hj
  ·exact⟨i,by rw[if_pos aE];exact hj⟩
def a2o(l:List UInt8):Option (List UInt8):=if Lib.hasPrefix l [39]&&Lib.hasSuffix (Lib.trimPrefix l [39]) [39] then some (Lib.trimSuffix (Lib.trimPrefix l [39]) [39]) else none
def unq(l:List UInt8):Option (List UInt8):=(a2o l).bind fun r=>if(pairs 0 r).contains 39 then none else some (pairs 39 r)
theorem wX(l r:List UInt8):a2o l=some r↔l=39::(r++[39]):=by
 unfold a2o;cases l with
 |nil=>simp[Lib.hasPrefix]
 |cons c t=>
  by_cases hc:c=39
  ·subst hc;have hp:Lib.hasPrefix (39::t) [39]=true:=(by simp[Lib.hasPrefix,List.isPrefixOf]);have ht:Lib.trimPrefix (39::t) [39]=t:=(by simp[Lib.trimPrefix,hp]);rw[hp,ht];by_cases hs:∃u,t=u++[39]
   ·obtain⟨u,rfl⟩:=hs;have h2:Lib.hasSuffix (u++[39]) [39]=true:=(by simp[Lib.hasSuffix]);simp[h2,Lib.trimSuffix]
   ·have h2:Lib.hasSuffix t [39]=false:=by
     simp only[Lib.hasSuffix,Bool.eq_false_iff,ne_eq,List.isSuffixOf_iff_suffix];rintro⟨u,hu⟩;exact hs ⟨u,hu.symm⟩
    simp only[h2,Bool.and_false,Bool.false_eq_true,if_false];constructor
    ·intro h;cases h
    ·intro h;injection h with _ h;exact absurd ⟨r,h⟩ hs
  ·have hp:Lib.hasPrefix (c::t) [39]=false:=by simp[Lib.hasPrefix,List.isPrefixOf,Ne.symm hc]
   simp only[hp,Bool.false_and,Bool.false_eq_true,if_false];constructor
   ·intro h;cases h
   ·intro h;injection h with h _;exact absurd h hc
theorem a0q{l r:List UInt8}(h:a2o l=some r):r.length+2=l.length:=by
 rw[(wX l r).1 h];simp
end
section
def iF:List UInt8:=[48,49,50,51,52,53,54,55,56,57,97,98,99,100,101,102]
def hv(c:UInt8):Int:=Lib.indexByte iF c
def vE(c:UInt8):Bool:=iF.contains c
def unhex:List UInt8->List UInt8
 |a::b::r=>UInt8.ofNat ((16 * hv a+hv b).toNat)::unhex r
 |_=>[]
theorem tY(l:List UInt8):(unhex l).length<=l.length:=by
 match l with
 |[]=>simp[unhex]
 |[_]=>simp[unhex]
 |a::b::r=>have:=tY r;simp[unhex];omega
theorem xV:∀(p q:List UInt8),p.length % 2=0->unhex (p++q)=unhex p++unhex q
 |[],q,_=>by simp[unhex]
 |[_],_,h=>by simp at h
 |a::b::r,q,h=>by
  have:=xV r q (by simp at h;omega);simp[unhex,this]
theorem uW:∀c:UInt8,vE c=true->0<=hv c/\hv c<16:=by
 intro c hc;have:c∈iF:=(by simpa[vE] using hc);simp only[iF,List.mem_cons,List.mem_nil_iff,or_false] at this;rcases this with rfl|rfl|rfl|rfl|rfl|rfl|rfl|rfl|rfl|rfl|rfl|rfl|rfl|rfl|rfl|rfl<;>decide
theorem wK(l cs:List UInt8):Lib.trimS l cs=[]↔∀c∈l,cs.contains c=true:=by
 have left:∀l:List UInt8,Lib.trimLeftS l cs=[]↔∀c∈l,cs.contains c=true:=by
  intro l;unfold Lib.trimLeftS
  induction l with
  |nil=>simp
  |cons a r ih=>
   by_cases h:cs.contains a=true
   ·rw[List.dropWhile_cons_of_pos bb,ih];constructor
    ·intro hr c hc;rcases List.mem_cons.1 hc with rfl|hc
     ·exact h
     ·exact hr c hc
    ·intro hr c hc;exact hr c (List.mem_cons_of_mem _ hc)
   ·rw[List.dropWhile_cons_of_neg bb];constructor
    ·intro hr;cases hr
    ·intro hr;exact absurd (hr a (List.mem_cons_self ..)) h
 have tw:∀(l:List UInt8) (c:UInt8),c∈l.takeWhile (cs.contains ·)->cs.contains c=true:=by
  intro l
  induction l with
  |nil=>intro c hc;cases hc
  |cons a r ih=>
   intro c hc;by_cases h:cs.contains a=true
   ·rw[List.takeWhile_cons_of_pos bb] at hc;rcases List.mem_cons.1 hc with rfl|hc
    ·exact h
    ·exact ih c hc
   ·rw[List.takeWhile_cons_of_neg bb] at hc;cases hc
 unfold Lib.trimS;rw[left];unfold Lib.trimRightS;constructor
 ·intro h c hc;have hc':c∈l.reverse.takeWhile (cs.contains ·)++l.reverse.dropWhile (cs.contains ·):=(by rw[List.takeWhile_append_dropWhile];exact List.mem_reverse.2 hc);rcases List.mem_append.1 hc' with h1|h1
  ·exact tw _ c h1
  ·exact h c (List.mem_reverse.2 h1)
 ·intro h c hc;refine h c ?_;have:=List.mem_reverse.1 hc;exact List.mem_reverse.1 ((List.dropWhile_sublist _).mem this)
theorem or_digits:∀a b:Fin 16,bits BinOp.or IntKind.i64 ((a.val:Int) * 16) (b.val:Int)=(a.val:Int) * 16+(b.val:Int):=by decide
theorem a1q(l:List UInt8)(m:Nat)(h:m % 2=0)(hm:m<l.length)(hm1:m+1<l.length):
  unhex (l.take (m+2))=unhex (l.take m)++[UInt8.ofNat ((16 * hv l[m]+hv l[m+1]).toNat)]:=by
 have e:l.take (m+2)=l.take m++[l[m],l[m+1]]:=by
  have e1:=List.take_add_one (l:=l) (i:=m+1);have e2:=List.take_add_one (l:=l) (i:=m);rw[List.getElem?_eq_getElem hm1] at e1;rw[List.getElem?_eq_getElem hm] at e2;rw[show m+2=(m+1)+1 from rfl,e1,e2,List.append_assoc];rfl
 rw[e,xV _ _ ak];rfl
end
section
end
section
def cZ(c:UInt8):Bool:=(97<=c&&c<=122)||c==95
def dI(c:UInt8):Bool:=48<=c&&c<=57
def jP(c:UInt8):Bool:=cZ c||dI c
def iR(c:UInt8):Bool:=c==32||c==9||c==10||c==13
def jJ(p:UInt8->Bool)(l:List UInt8):Nat:=(l.takeWhile p).length
theorem zB(p:UInt8->Bool):jJ p []=0:=rfl
theorem iP(p:UInt8->Bool)(c:UInt8)(l:List UInt8):jJ p (c::l)=if p c then jJ p l+1 else 0:=by
 unfold jJ;rw[List.takeWhile_cons];split<;>simp
theorem xL(p:UInt8->Bool)(l:List UInt8):jJ p l<=l.length:=by
 induction l with
 |nil=>simp[zB]
 |cons c r ih=>rw[iP];split<;>simp<;>omega
def Stops(p:UInt8->Bool)(y:List UInt8):Prop:=∀c,y.head?=some c->p c=false
theorem a0a{p:UInt8->Bool}{t y:List UInt8}(h:∀c∈t,p c=true)(hy:Stops p y):jJ p (t++y)=t.length:=by
 induction t with
 |nil=>
  cases y with
  |nil=>rfl
  |cons d y=>simp only[List.nil_append,iP,List.length_nil];rw[hy d rfl];rfl
 |cons d t ih=>
  simp only[List.cons_append,List.length_cons,iP];rw[h d aa,if_pos rfl,ih (fun c hc=>h c (by simp[hc]))]
theorem b5b(p:UInt8->Bool)(l:List UInt8):Stops p (l.drop (jJ p l)):=by
 induction l with
 |nil=>intro c hc;simp[zB] at hc
 |cons d r ih=>
  rw[iP];split
  ·simpa using ih
  ·rename_i hp;intro c hc;simp at hc;subst hc;simpa using hp
theorem b5a(p:UInt8->Bool)(l:List UInt8):∀c∈l.take (jJ p l),p c=true:=by
 induction l with
 |nil=>simp
 |cons d r ih=>
  rw[iP];split
  ·rename_i hp;intro c hc;simp at hc;rcases hc with rfl|hc;exact hp;exact ih c hc
  ·simp
def oO:List UInt8->Option Nat
 |[]=>none
 |[c]=>if c=39 then some 1 else none
 |c::d::r=>if c=39 then(if d=39 then(oO r).map (·+2) else some 1) else(oO (d::r)).map (·+1)
theorem oG{c:UInt8}(h:c≠39)(r:List UInt8):oO (c::r)=(oO r).map (·+1):=by
 cases r with
 |nil=>simp[oO,h]
 |cons d r=>simp[oO,h]
theorem uF(r:List UInt8):oO (39::39::r)=(oO r).map (·+2):=by simp[oO]
theorem uU{r:List UInt8}(h:r.head?≠some 39):oO (39::r)=some 1:=by
 cases r with
 |nil=>simp[oO]
 |cons d r=>simp at h;simp[oO,h]
theorem uG:∀(n:Nat) (l:List UInt8),l.length<=n->∀k,oO l=some k->1<=k/\k<=l.length:=by
 intro n
 induction n with
 |zero=>
  intro l hl k h;obtain rfl:l=[]:=by simpa using hl
  simp[oO] at h
 |succ n ih=>
  intro l hl k h
  match l,hl with
  |[],_=>simp[oO] at h
  |[c],_=>simp[oO] at h;simp;omega
  |c::d::r,hl=>
   simp only[List.length_cons] at hl;by_cases hc:c=39
   ·subst hc;by_cases hd:d=39
    ·subst hd;rw[uF] at h;obtain⟨m,hm,rfl⟩:=Option.map_eq_some_iff.1 h;have:=ih r aE m hm;simp;omega
    ·rw[uU (by simpa using hd)] at h;simp at h;simp;omega
   ·rw[oG hc] at h;obtain⟨m,hm,rfl⟩:=Option.map_eq_some_iff.1 h;have:=ih (d::r) ak m hm;simp at this⊢;omega
def yP(c:UInt8)(h:Option UInt8):Nat:=
 if c=60 then(if h=some 62\/h=some 61 then 2 else 1)
 else if c=62 then(if h=some 61 then 2 else 1)
 else if c=124 then(if h=some 124 then 2 else 0)
 else if c∈([40,41,44,46,59,42,43,45,47,37,61]:List UInt8) then 1 else 0
def rU:List UInt8->Option (Int×Nat)
 |[]=>none
 |c::r=>
  if cZ c/\¬(c=120/\r.head?=some 39) then(if jJ jP r+1<=30 then some (1,jJ jP r+1) else none)
  else if c=39 then(oO r).map fun n=>(2,n+1)
  else if c=120 then(oO (r.drop 1)).map fun n=>(2,n+2)
  else if dI c then(if((r.drop (jJ dI r)).head?.map cZ)=some true then none else some (2,jJ dI r+1))
  else if yP c r.head?=0 then none else some (3,yP c r.head?)
theorem jE(c:UInt8)(r:List UInt8):rU (c::r)=
  if cZ c/\¬(c=120/\r.head?=some 39) then(if jJ jP r+1<=30 then some (1,jJ jP r+1) else none)
  else if c=39 then(oO r).map fun n=>(2,n+1)
  else if c=120 then(oO (r.drop 1)).map fun n=>(2,n+2)
  else if dI c then(if((r.drop (jJ dI r)).head?.map cZ)=some true then none else some (2,jJ dI r+1))
  else if yP c r.head?=0 then none else some (3,yP c r.head?):=rfl
theorem c2w(c:UInt8)(r:List UInt8):yP c r.head?<=(c::r).length:=by
 unfold yP;cases r with
 |nil=>simp;split<;>(try split)<;>(try split)<;>(try split)<;>omega
 |cons d r=>simp;split<;>(try split)<;>(try split)<;>(try split)<;>(try split)<;>omega
theorem a3y{s:List UInt8}{k:Int}{n:Nat}(h:rU s=some (k,n)):1<=n/\n<=s.length/\(k=1\/k=2\/k=3):=by
 match s,h with
 |c::r,h=>
  rw[jE] at h;split at h
  ·split at h
   ·injection h with h;injection h with h1 h2;have:=xL jP r;simp;omega
   ·cases h
  ·split at h
   ·obtain⟨m,hm,e⟩:=Option.map_eq_some_iff.1 h;injection e with h1 h2;have:=uG _ _ (Nat.le_refl _) _ hm;simp;omega
   ·split at h
    ·obtain⟨m,hm,e⟩:=Option.map_eq_some_iff.1 h;injection e with h1 h2;have:=uG _ _ (Nat.le_refl _) _ hm;simp at this⊢;omega
    ·split at h
     ·split at h
      ·cases h
      ·injection h with h;injection h with h1 h2;have:=xL dI r;simp;omega
     ·split at h
      ·cases h
      ·injection h with h;injection h with h1 h2;have:=c2w c r;simp at this⊢;omega
def Apart(y x:List UInt8):Prop:=x.head?=y.head?\/x.head?=some 32\/x.head?=some 10
theorem Apart.ne{c:UInt8}{y x:List UInt8}(h:Apart y x)(h32:c≠32)(h10:c≠10)(hy:y.head?≠some c):x.head?≠some c:=by
 rcases h with h|h|h
 ·rw[h];exact hy
 ·rw[h];simp;exact Ne.symm h32
 ·rw[h];simp;exact Ne.symm h10
def bX:Bool->List UInt8->List UInt8
 |_,[]=>[]
 |true,c::r=>if c=10 then bX false r else bX true r
 |false,c::r=>if iR c then bX false r else if c=45/\r.head?=some 45 then bX true r else c::r
theorem uQ(b:Bool):bX b []=[]:=by cases b<;>rfl
theorem zS(c:UInt8)(r:List UInt8):bX true (c::r)=if c=10 then bX false r else bX true r:=rfl
theorem vI(c:UInt8)(r:List UInt8):bX false (c::r)=if iR c then bX false r else if c=45/\r.head?=some 45 then bX true r else c::r:=rfl
theorem lT:∀(b:Bool) (s:List UInt8),(bX b s).length<=s.length:=by
 intro b s
 induction s generalizing b with
 |nil=>cases b<;>simp[bX]
 |cons c r ih=>
  cases b
  ·unfold bX;split
   ·have:=ih false;simp;omega
   ·split
    ·have:=ih true;simp;omega
    ·simp
  ·unfold bX;split
   ·have:=ih false;simp;omega
   ·have:=ih true;simp;omega
theorem xW:∀(b:Bool) (s:List UInt8),bX b s=s.drop (s.length-(bX b s).length):=by
 intro b s
 induction s generalizing b with
 |nil=>cases b<;>simp[bX]
 |cons c r ih=>
  have l1:=lT true r;have l0:=lT false r;cases b
  ·unfold bX;split
   ·rw[List.length_cons,show r.length+1-(bX false r).length=(r.length-(bX false r).length)+1 by omega,List.drop_succ_cons];exact ih false
   ·split
    ·rw[List.length_cons,show r.length+1-(bX true r).length=(r.length-(bX true r).length)+1 by omega,List.drop_succ_cons];exact ih true
    ·simp
  ·unfold bX;split
   ·rw[List.length_cons,show r.length+1-(bX false r).length=(r.length-(bX false r).length)+1 by omega,List.drop_succ_cons];exact ih false
   ·rw[List.length_cons,show r.length+1-(bX true r).length=(r.length-(bX true r).length)+1 by omega,List.drop_succ_cons];exact ih true
theorem a5c(s:List UInt8):bX false s=bX false (s.drop (jJ iR s)):=by
 induction s with
 |nil=>rfl
 |cons c r ih=>
  rw[iP];split
  ·rename_i hp;rw[List.drop_succ_cons,<-ih]
   conv=>lhs;unfold bX
   rw[if_pos hp]
  ·simp
theorem sM{s:List UInt8}(h:Stops iR s)(h2:¬(s.head?=some 45/\s[1]?=some 45)):bX false s=s:=by
 cases s with
 |nil=>rfl
 |cons c r=>
  unfold bX;rw[if_neg (by rw[h c rfl];decide),if_neg];rintro⟨rfl,e⟩;refine h2 ⟨rfl,?_⟩;cases r with
  |nil=>simp at e
  |cons d r=>simpa using e
theorem a3e{s:List UInt8}(h:∀c∈s,c≠10):bX true s=[]:=by
 induction s with
 |nil=>rfl
 |cons c r ih=>unfold bX;rw[if_neg (h c aa)];exact ih fun d hd=>h d (by simp[hd])
theorem b9c{s:List UInt8}(n:Nat)(h:s[n]?=some 10)(hn:∀c∈s.take n,c≠10):bX true s=bX false (s.drop n):=by
 induction s generalizing n with
 |nil=>simp at h
 |cons c r ih=>
  rw[zS];cases n with
  |zero=>
   simp at h;subst h;rw[if_pos rfl,List.drop_zero,vI,if_pos ae]
  |succ n=>
   rw[if_neg (hn c aa),ih n bb (fun d hd=>hn d (by simp[hd]))];simp
theorem xX{s:List UInt8}(h:s.head?=some 45/\s[1]?=some 45):bX false s=bX true s:=by
 match s,h with
 |c::d::r,h=>
  simp at h;obtain⟨rfl,rfl⟩:=h;simp[bX,iR]
 |[c],h=>simp at h
structure Tok where
 k:Int
 pos:Nat
 t:List UInt8
 v:Int×Int×List UInt8
def valOf(parse:List UInt8->Option (Int×Int×List UInt8))(k:Int)(t:List UInt8):Option (Int×Int×List UInt8):=if k=2 then parse t else some (0,0,[])
def rM(parse:List UInt8->Option (Int×Int×List UInt8))(s:List UInt8):Option (Int×Nat×(Int×Int×List UInt8)):=
 (rU s).bind fun x=>(valOf parse x.1 (s.take x.2)).map fun v=>(x.1,x.2,v)
def a4s(parse:List UInt8->Option (Int×Int×List UInt8))(N:Nat):Nat->List UInt8->Option (List Tok)
 |0,_=>none
 |f+1,s=>if bX false s=[] then some [] else
  (rM parse (bX false s)).bind fun x=>(a4s parse N f ((bX false s).drop x.2.1)).map fun l=>⟨x.1,N-(bX false s).length,(bX false s).take x.2.1,x.2.2⟩::l
variable {parse:List UInt8->Option (Int×Int×List UInt8)}
theorem nN{s:List UInt8}{x:Int×Nat×(Int×Int×List UInt8)}(h:rM parse s=some x):1<=x.2.1/\x.2.1<=s.length/\(x.1=1\/x.1=2\/x.1=3):=by
 unfold rM at h;obtain⟨⟨k,n⟩,h1,h2⟩:=Option.bind_eq_some_iff.1 h;obtain⟨v,hv,rfl⟩:=Option.map_eq_some_iff.1 h2;exact a3y h1
theorem b4m(N:Nat):∀(f g:Nat) (s:List UInt8),s.length<f->s.length<g->a4s parse N f s=a4s parse N g s:=by
 intro f
 induction f with
 |zero=>intro g s h;omega
 |succ f ih=>
  intro g s hf hg;cases g with
  |zero=>omega
  |succ g=>
   unfold a4s;split
   ·rfl
   ·have hl:=lT false s;cases ho:rM parse (bX false s) with
    |none=>rfl
    |some x=>
     have:=nN ho;simp only[Option.bind_some];rw[ih g ((bX false s).drop x.2.1) ak ak]
theorem pM:∀(b:Bool) (s:List UInt8),bX false (bX b s)=bX b s:=by
 intro b s
 induction s generalizing b with
 |nil=>simp[uQ]
 |cons c r ih=>
  cases b
  ·rw[vI];by_cases hb:iR c=true
   ·rw[if_pos hb];exact ih false
   ·rw[if_neg hb];by_cases h2:c=45/\r.head?=some 45
    ·rw[if_pos h2];exact ih true
    ·rw[if_neg h2,vI,if_neg hb,if_neg h2]
  ·rw[zS];by_cases h10:c=10
   ·rw[if_pos h10];exact ih false
   ·rw[if_neg h10];exact ih true
def toks(parse:List UInt8->Option (Int×Int×List UInt8))(N:Nat)(s:List UInt8):Option (List Tok):=a4s parse N (s.length+1) s
theorem mH(N:Nat)(s:List UInt8):toks parse N s=if bX false s=[] then some [] else
  (rM parse (bX false s)).bind fun x=>(toks parse N ((bX false s).drop x.2.1)).map fun l=>⟨x.1,N-(bX false s).length,(bX false s).take x.2.1,x.2.2⟩::l:=by
 have hl:=lT false s
 conv=>lhs;unfold toks a4s
 split
 ·rfl
 ·cases ho:rM parse (bX false s) with
  |none=>rfl
  |some x=>
   have:=nN ho;simp only[Option.bind_some];rw[b4m N s.length (((bX false s).drop x.2.1).length+1) _ ak aE];rfl
theorem pI(N:Nat):toks parse N []=some []:=by rw[mH,uQ,if_pos rfl]
theorem rF(N:Nat)(s r:List UInt8)(h:bX false s=bX false r):toks parse N s=toks parse N r:=by
 rw[mH,mH,h]
def Tok.bare(x:Tok):Int×List UInt8×(Int×Int×List UInt8):=(x.k,x.t,x.v)
def blanked(l:List Tok):List UInt8:=l.flatMap fun x=>x.t++[32]
end
section
variable {parse:List UInt8->Option (Int×Int×List UInt8)}
theorem a1m(N:Nat):∀(n:Nat) (s:List UInt8),s.length<=n->∀l,toks parse N s=some l->(blanked l).length<=2 * s.length/\l.length<=s.length:=by
 intro n
 induction n with
 |zero=>
  intro s hs l h;obtain rfl:s=[]:=(by simpa using hs);rw[pI] at h;injection h with h;subst h;simp[blanked]
 |succ n ih=>
  intro s hs l h;rw[mH] at h;have hl:=lT false s;split at h
  ·injection h with h;subst h;simp[blanked]
  ·obtain⟨x,hx,h⟩:=Option.bind_eq_some_iff.1 h;obtain⟨l1,h1,rfl⟩:=Option.map_eq_some_iff.1 h;have hle:=nN hx;have:=ih ((bX false s).drop x.2.1) ak l1 h1;simp only[List.length_drop] at this;have e:(blanked (⟨x.1,N-(bX false s).length,(bX false s).take x.2.1,x.2.2⟩::l1)).length=min x.2.1 (bX false s).length+1+(blanked l1).length:=(by simp[blanked];omega);refine⟨by rw[e];omega,by simp;omega⟩
end
section
abbrev S(l:List UInt8):Value:= .string ⟨l.toArray⟩
abbrev V(k n:Int)(l:List UInt8):Value:= .agg #[.int .i64 k,.int .i64 n,S l]
theorem jT(n:Int)(w:World):
  eg 290 #[.bool true,.int .i64 n] w fun e w'=>e= .returned (.tuple #[])/\w=w':=by
 go_enter func290,ntmps290;go_wp2;go_end0;exact⟨rfl,rfl⟩
theorem kZ(n:Int)(w:World):
  eg 290 #[.bool false,.int .i64 n] w fun e w'=>e= .panicked [{v:= .iface 47 (.int .i64 n),recovered:=false}]/\w=w':=by
 go_enter func290,ntmps290;go_wp2;exact⟨rfl,rfl,rfl⟩
def panics(n:Int):Ending:= .panicked [{v:= .iface 47 (.int .i64 n),recovered:=false}]
theorem oP(b:Bool)(n:Int)(w:World)(h:b=true):
  eg 290 #[.bool b,.int .i64 n] w fun e w'=>e= .returned (.tuple #[])/\w=w':=by subst h;exact jT n w
theorem b9x(b:Bool)(n:Int)(w:World)(h:b=false):
  eg 290 #[.bool b,.int .i64 n] w fun e w'=>e=panics n/\w=w':=by subst h;exact kZ n w
def chk(k n:Int)(l:List UInt8):Int:=
 if 1000<l.length then 3
 else if(k=0/\n=0/\l=[])\/(k=1/\(n=0\/n=1)/\l=[])\/(k=2/\l=[])\/(k=3/\n=0)\/(k=4/\n=0) then 0 else 2
def b7a(c:Int):Ending:=if c=0 then .returned (.tuple #[]) else panics c
def jF(c:Int)(w:World)(e:Ending)(w':World):Prop:=e=b7a c/\Below w.heap.size w w'
theorem a3z{k:Int}(n:Int)(l:List UInt8)(hs:¬1000<l.length)(kk:k<0):chk k n l=2:=by
 unfold chk;rw[if_neg hs,if_neg aE]
theorem a4a{k:Int}(n:Int)(l:List UInt8)(hs:¬1000<l.length)(kk:4<k):chk k n l=2:=by
 unfold chk;rw[if_neg hs,if_neg aE]
theorem mF{c:Int}(h:c=0):Ending.returned (.tuple #[])=b7a c:=by subst h;rfl
theorem mG{c:Int}(h:c=2):Ending.panicked [{v:= .iface 47 (.int .i64 2),recovered:=false}]=b7a c:=by subst h;rfl
theorem b1v(k n:Int)(l:List UInt8)(w:World)(hs:1000<l.length):
  eg 243 #[V k n l] w (jF (chk k n l) w):=by
 go_enter func243,ntmps243;go_wp2_with fail;refine(b9x _ _ _ ak).mono ?_;rintro e w' ⟨rfl,rfl⟩;exact⟨rfl,by simp[chk,hs,b7a];rfl,((Below.refl _ _).alloc (Nat.le_refl _) _)⟩
theorem b9m(l:List UInt8)(w:World)(hs:¬1000<l.length):
  eg 243 #[V 0 0 l] w (jF (chk 0 0 l) w):=by
 go_enter func243,ntmps243;go_wp2_with fail;refine(oP _ _ _ ak).mono ?_;rintro e w' ⟨rfl,rfl⟩;go_wp2_with (first |(go_at_call 290;(with_reducible refine(jT _ _).mono ?_);rintro e w' ⟨rfl,rfl⟩)|(go_at_call 290;(with_reducible refine(kZ _ _).mono ?_);rintro e w' ⟨rfl,rfl⟩))
 all_goals first
  |(go_end0;exact⟨mF cE,((Below.refl _ _).alloc (Nat.le_refl _) _).alloc aa _⟩)
  |exact⟨rfl,mG cE,((Below.refl _ _).alloc (Nat.le_refl _) _).alloc aa _⟩
theorem b9l(n:Int)(l:List UInt8)(w:World)(hs:¬1000<l.length)(n0:¬0=n):
  eg 243 #[V 0 n l] w (jF (chk 0 n l) w):=by
 go_enter func243,ntmps243;go_wp2_with fail;refine(oP _ _ _ ak).mono ?_;rintro e w' ⟨rfl,rfl⟩;go_wp2_with (first |(go_at_call 290;(with_reducible refine(jT _ _).mono ?_);rintro e w' ⟨rfl,rfl⟩)|(go_at_call 290;(with_reducible refine(kZ _ _).mono ?_);rintro e w' ⟨rfl,rfl⟩))
 all_goals first
  |(go_end0;exact⟨mF ce,((Below.refl _ _).alloc (Nat.le_refl _) _).alloc aa _⟩)
  |exact⟨rfl,mG ce,((Below.refl _ _).alloc (Nat.le_refl _) _).alloc aa _⟩
theorem b5k(n:Int)(l:List UInt8)(w:World)(hs:¬1000<l.length):
  eg 243 #[V 1 n l] w (jF (chk 1 n l) w):=by
 go_enter func243,ntmps243;go_wp2_with fail;refine(oP _ _ _ ak).mono ?_;rintro e w' ⟨rfl,rfl⟩;go_wp2_with (first |(go_at_call 290;(with_reducible refine(jT _ _).mono ?_);rintro e w' ⟨rfl,rfl⟩)|(go_at_call 290;(with_reducible refine(kZ _ _).mono ?_);rintro e w' ⟨rfl,rfl⟩))
 all_goals first
  |(go_end0;exact⟨mF (by simp[chk,<-yJ, *]),((Below.refl _ _).alloc (Nat.le_refl _) _).alloc aa _⟩)
  |exact⟨rfl,mG (by simp[chk,<-yJ, *]),((Below.refl _ _).alloc (Nat.le_refl _) _).alloc aa _⟩
theorem b5j(n:Int)(l:List UInt8)(w:World)(hs:¬1000<l.length):
  eg 243 #[V 2 n l] w (jF (chk 2 n l) w):=by
 go_enter func243,ntmps243;go_wp2_with fail;refine(oP _ _ _ ak).mono ?_;rintro e w' ⟨rfl,rfl⟩;go_wp2_with (first |(go_at_call 290;(with_reducible refine(jT _ _).mono ?_);rintro e w' ⟨rfl,rfl⟩)|(go_at_call 290;(with_reducible refine(kZ _ _).mono ?_);rintro e w' ⟨rfl,rfl⟩))
 all_goals first
  |(go_end0;exact⟨mF cE,((Below.refl _ _).alloc (Nat.le_refl _) _).alloc aa _⟩)
  |exact⟨rfl,mG cE,((Below.refl _ _).alloc (Nat.le_refl _) _).alloc aa _⟩
theorem b9k(l:List UInt8)(w:World)(hs:¬1000<l.length):
  eg 243 #[V 3 0 l] w (jF (chk 3 0 l) w):=by
 go_enter func243,ntmps243;go_wp2_with fail;refine(oP _ _ _ ak).mono ?_;rintro e w' ⟨rfl,rfl⟩;go_wp2_with (first |(go_at_call 290;(with_reducible refine(jT _ _).mono ?_);rintro e w' ⟨rfl,rfl⟩)|(go_at_call 290;(with_reducible refine(kZ _ _).mono ?_);rintro e w' ⟨rfl,rfl⟩))
 all_goals first
  |(go_end0;exact⟨mF cE,((Below.refl _ _).alloc (Nat.le_refl _) _).alloc aa _⟩)
  |exact⟨rfl,mG cE,((Below.refl _ _).alloc (Nat.le_refl _) _).alloc aa _⟩
theorem b9j(n:Int)(l:List UInt8)(w:World)(hs:¬1000<l.length)(n0:¬0=n):
  eg 243 #[V 3 n l] w (jF (chk 3 n l) w):=by
 go_enter func243,ntmps243;go_wp2_with fail;refine(oP _ _ _ ak).mono ?_;rintro e w' ⟨rfl,rfl⟩;go_wp2_with (first |(go_at_call 290;(with_reducible refine(jT _ _).mono ?_);rintro e w' ⟨rfl,rfl⟩)|(go_at_call 290;(with_reducible refine(kZ _ _).mono ?_);rintro e w' ⟨rfl,rfl⟩))
 all_goals first
  |(go_end0;exact⟨mF ce,((Below.refl _ _).alloc (Nat.le_refl _) _).alloc aa _⟩)
  |exact⟨rfl,mG ce,((Below.refl _ _).alloc (Nat.le_refl _) _).alloc aa _⟩
theorem b9i(l:List UInt8)(w:World)(hs:¬1000<l.length):
  eg 243 #[V 4 0 l] w (jF (chk 4 0 l) w):=by
 go_enter func243,ntmps243;go_wp2_with fail;refine(oP _ _ _ ak).mono ?_;rintro e w' ⟨rfl,rfl⟩;go_wp2_with (first |(go_at_call 290;(with_reducible refine(jT _ _).mono ?_);rintro e w' ⟨rfl,rfl⟩)|(go_at_call 290;(with_reducible refine(kZ _ _).mono ?_);rintro e w' ⟨rfl,rfl⟩))
 all_goals first
  |(go_end0;exact⟨mF cE,((Below.refl _ _).alloc (Nat.le_refl _) _).alloc aa _⟩)
  |exact⟨rfl,mG cE,((Below.refl _ _).alloc (Nat.le_refl _) _).alloc aa _⟩
theorem b9h(n:Int)(l:List UInt8)(w:World)(hs:¬1000<l.length)(n0:¬0=n):
  eg 243 #[V 4 n l] w (jF (chk 4 n l) w):=by
 go_enter func243,ntmps243;go_wp2_with fail;refine(oP _ _ _ ak).mono ?_;rintro e w' ⟨rfl,rfl⟩;go_wp2_with (first |(go_at_call 290;(with_reducible refine(jT _ _).mono ?_);rintro e w' ⟨rfl,rfl⟩)|(go_at_call 290;(with_reducible refine(kZ _ _).mono ?_);rintro e w' ⟨rfl,rfl⟩))
 all_goals first
  |(go_end0;exact⟨mF ce,((Below.refl _ _).alloc (Nat.le_refl _) _).alloc aa _⟩)
  |exact⟨rfl,mG ce,((Below.refl _ _).alloc (Nat.le_refl _) _).alloc aa _⟩
theorem b1u(k:Int)(l:List UInt8)(w:World)(hs:¬1000<l.length)(kk:k<0)(k1:(k==1)=false)(k2:(k==2)=false)(k3:(k==3)=false)(k4:(k==4)=false):
  eg 243 #[V k 0 l] w (jF (chk k 0 l) w):=by
 go_enter func243,ntmps243;go_wp2_with fail;refine(oP _ _ _ ak).mono ?_;rintro e w' ⟨rfl,rfl⟩;go_wp2_with (first |(go_at_call 290;(with_reducible refine(jT _ _).mono ?_);rintro e w' ⟨rfl,rfl⟩)|(go_at_call 290;(with_reducible refine(kZ _ _).mono ?_);rintro e w' ⟨rfl,rfl⟩))
 all_goals first
  |(go_end0;exact⟨mF (by exact a3z _ _ bv kk),((Below.refl _ _).alloc (Nat.le_refl _) _).alloc aa _⟩)
  |exact⟨rfl,mG (by exact a3z _ _ bv kk),((Below.refl _ _).alloc (Nat.le_refl _) _).alloc aa _⟩
theorem b1t(k n:Int)(l:List UInt8)(w:World)(hs:¬1000<l.length)(kk:k<0)(k1:(k==1)=false)(k2:(k==2)=false)(k3:(k==3)=false)(k4:(k==4)=false)(n0:¬0=n):
  eg 243 #[V k n l] w (jF (chk k n l) w):=by
 go_enter func243,ntmps243;go_wp2_with fail;refine(oP _ _ _ ak).mono ?_;rintro e w' ⟨rfl,rfl⟩;go_wp2_with (first |(go_at_call 290;(with_reducible refine(jT _ _).mono ?_);rintro e w' ⟨rfl,rfl⟩)|(go_at_call 290;(with_reducible refine(kZ _ _).mono ?_);rintro e w' ⟨rfl,rfl⟩))
 all_goals first
  |(go_end0;exact⟨mF (by exact a3z _ _ bv kk),((Below.refl _ _).alloc (Nat.le_refl _) _).alloc aa _⟩)
  |exact⟨rfl,mG (by exact a3z _ _ bv kk),((Below.refl _ _).alloc (Nat.le_refl _) _).alloc aa _⟩
theorem b1x(k:Int)(l:List UInt8)(w:World)(hs:¬1000<l.length)(kk:4<k)(_kz:0<=k)(_kd:decide (k<=4)=false)(k1:(k==1)=false)(k2:(k==2)=false)(k3:(k==3)=false)(k4:(k==4)=false):
  eg 243 #[V k 0 l] w (jF (chk k 0 l) w):=by
 go_enter func243,ntmps243;go_wp2_with fail;refine(oP _ _ _ ak).mono ?_;rintro e w' ⟨rfl,rfl⟩;go_wp2_with (first |(go_at_call 290;(with_reducible refine(jT _ _).mono ?_);rintro e w' ⟨rfl,rfl⟩)|(go_at_call 290;(with_reducible refine(kZ _ _).mono ?_);rintro e w' ⟨rfl,rfl⟩))
 all_goals first
  |(go_end0;exact⟨mF (by exact a4a _ _ bv kk),((Below.refl _ _).alloc (Nat.le_refl _) _).alloc aa _⟩)
  |exact⟨rfl,mG (by exact a4a _ _ bv kk),((Below.refl _ _).alloc (Nat.le_refl _) _).alloc aa _⟩
theorem b1w(k n:Int)(l:List UInt8)(w:World)(hs:¬1000<l.length)(kk:4<k)(_kz:0<=k)(_kd:decide (k<=4)=false)(k1:(k==1)=false)(k2:(k==2)=false)(k3:(k==3)=false)(k4:(k==4)=false)(n0:¬0=n):
  eg 243 #[V k n l] w (jF (chk k n l) w):=by
 go_enter func243,ntmps243;go_wp2_with fail;refine(oP _ _ _ ak).mono ?_;rintro e w' ⟨rfl,rfl⟩;go_wp2_with (first |(go_at_call 290;(with_reducible refine(jT _ _).mono ?_);rintro e w' ⟨rfl,rfl⟩)|(go_at_call 290;(with_reducible refine(kZ _ _).mono ?_);rintro e w' ⟨rfl,rfl⟩))
 all_goals first
  |(go_end0;exact⟨mF (by exact a4a _ _ bv kk),((Below.refl _ _).alloc (Nat.le_refl _) _).alloc aa _⟩)
  |exact⟨rfl,mG (by exact a4a _ _ bv kk),((Below.refl _ _).alloc (Nat.le_refl _) _).alloc aa _⟩
theorem a5h(k n:Int)(l:List UInt8)(w:World):eg 243 #[V k n l] w (jF (chk k n l) w):=by
 by_cases hs:1000<l.length
 ·exact b1v k n l w hs
 by_cases n0:n=0
 ·subst n0;by_cases k0:k=0
  ·subst k0;exact b9m l w hs
  by_cases k1:k=1
  ·subst k1;exact b5k 0 l w hs
  by_cases k2:k=2
  ·subst k2;exact b5j 0 l w hs
  by_cases k3:k=3
  ·subst k3;exact b9k l w hs
  by_cases k4:k=4
  ·subst k4;exact b9i l w hs
  rcases Int.lt_or_le k 0 with kk|kk
  ·exact b1u k l w hs kk (by simpa using k1) (by simpa using k2) (by simpa using k3) (by simpa using k4)
  ·exact b1x k l w hs aE kk ak (by simpa using k1) (by simpa using k2) (by simpa using k3) (by simpa using k4)
 ·have n1:¬0=n:=fun h=>n0 h.symm;by_cases k0:k=0
  ·subst k0;exact b9l n l w hs n1
  by_cases k1:k=1
  ·subst k1;exact b5k n l w hs
  by_cases k2:k=2
  ·subst k2;exact b5j n l w hs
  by_cases k3:k=3
  ·subst k3;exact b9j n l w hs n1
  by_cases k4:k=4
  ·subst k4;exact b9h n l w hs n1
  rcases Int.lt_or_le k 0 with kk|kk
  ·exact b1t k n l w hs kk (by simpa using k1) (by simpa using k2) (by simpa using k3) (by simpa using k4) n1
  ·exact b1w k n l w hs aE kk ak (by simpa using k1) (by simpa using k2) (by simpa using k3) (by simpa using k4) n1
end
section
theorem vZ(p:Addr)(g:Value)(w:World):
  CallsD prog 240 #[.pointer (some p),g] .returning w fun e u' w'=>e= .returned (.tuple #[])/\u'= .returning/\w=w':=by
 refine callsD_of_wpS func240 rfl fun c₀ cs hu=>?_;apply wpS_seq;apply wpS_region;simp[wpOpsS,go_sem,recoverD,hu,ntmps240,Exit.thenS];refine wpS_of_wp ?_;go_wp2;cases c₀
 simp_all [bodyPostS,results,results240]
theorem qX(p:Addr)(x n:Int)(g:FuncId)(first cap args:Array Value)(ha:first++cap=args)(w:World)(R:World->Prop)(hc:w.cell? p=some (.int .i64 x))(hz:w.frozen? p=false)
  (hg:∀(args:Array Value) (w:World),(callFunc g args).run prog w= .ok (.enter g args) w)
  (hclear:eg g args (w.setCell p (.int .i64 n)) fun e w'=>e= .returned (.tuple #[])/\R w'):
  CallsD prog 240 #[.pointer (some p),.func (.func g) first cap] (.panicking [{v:= .iface 47 (.int .i64 n),recovered:=false}]) w fun e u' w'=>
   e= .returned (.tuple #[])/\u'= .panicking [{v:= .iface 47 (.int .i64 n),recovered:=true}]/\R w':=by
 subst ha;refine callsD_of_wpS func240 rfl fun c₀ cs hu=>?_;apply wpS_seq;apply wpS_region;simp[wpOpsS,go_sem,recoverD,hu,ntmps240,Exit.thenS];refine wpS_of_wp ?_;have H:=Lib.hid hclear;clear hclear;have hta:∀w,(Instr.typeAssert (.iface 47 (.int .i64 n)) 20 47 false).run prog w= .ok (.int .i64 n) w:=fun _=>af;rw[show ∀a b x:Value,#[a,b]++(((Array.replicate 12 undef).setIfInBounds 3 x).setIfInBounds 2 x)= #[a,b,undef,undef,x,x,undef,undef,undef,undef,undef,undef,undef,undef] from fun _ _ _=>rfl];go_wp2_with fail;refine H.o.mono ?_;rintro e w' ⟨rfl,hR⟩;go_wp2_with fail;cases c₀
 simp_all [bodyPostS,results,results240]
theorem c6u(w:World):eg 302 #[] w fun e w'=>e= .returned (.tuple #[])/\w=w':=by
 go_enter func302,ntmps302;go_wp2;go_end0;exact⟨rfl,rfl⟩
theorem a3v(args:Array Value)(w:World):(callFunc 302 args).run prog w= .ok (.enter 302 args) w:=by
 simp[go_sem]
theorem a3g{k n:Int}{l:List UInt8}(w:World)(h:chk k n l=0):eg 243 #[V k n l] w fun e w'=>e= .returned (.tuple #[])/\Below w.heap.size w w':=
 (a5h k n l w).mono fun e w' ⟨he,hb⟩=>⟨by rw[he,h];rfl,hb⟩
theorem a3h{k n:Int}{l:List UInt8}(w:World)(h:¬chk k n l=0):eg 243 #[V k n l] w fun e w'=>e= .panicked [{v:= .iface 47 (.int .i64 (chk k n l)),recovered:=false}]/\Below w.heap.size w w':=
 (a5h k n l w).mono fun e w' ⟨he,hb⟩=>⟨by rw[he];simp[b7a,h,panics],hb⟩
theorem c0w(k n:Int)(l:List UInt8)(w:World)(h:chk k n l=0):eg 259 #[V k n l] w fun e w'=>e= .returned (.int .i64 0)/\Below w.heap.size w w':=by
 have H:=Lib.hid h;clear h
 go_enter_defers func259,ntmps259
 go_wp2_with fail;refine(a3g _ H.o).mono ?_;rintro e w' ⟨rfl,hb⟩;have hc:=hb.cell (p:=⟨w.heap.size+1,0,none⟩) aa;have hz:=hb.frozen (p:=⟨w.heap.size+1,0,none⟩) aa;simp[go_sem] at hc hz;go_wp2_with fail;refine leaves_cons (f:=240) (args:= #[.pointer (some ⟨w.heap.size+1,0,none⟩),.func (.func 302) #[] #[]]) aa an ?_;refine(vZ _ _ _).mono ?_;rintro e u' w'' ⟨rfl,rfl,rfl⟩;refine⟨.int .i64 0,?_,rfl,((((Below.refl _ _).alloc (Nat.le_refl _) _).alloc aa _).trans (hb.mono ak)).setCell aa _⟩;simp[results,results259,go_sem,hc]
theorem c0x(k n:Int)(l:List UInt8)(w:World)(h:¬chk k n l=0):eg 259 #[V k n l] w fun e w'=>e= .returned (.int .i64 (chk k n l))/\Below w.heap.size w w':=by
 have H:=Lib.hid h;clear h
 go_enter_defers func259,ntmps259
 go_wp2_with fail;refine(a3h _ H.o).mono ?_;rintro e w' ⟨rfl,hb⟩;have hc:=hb.cell (p:=⟨w.heap.size+1,0,none⟩) aa;have hz:=hb.frozen (p:=⟨w.heap.size+1,0,none⟩) aa;simp[go_sem] at hc hz;go_wp2_with fail;refine leaves_cons (f:=240) (args:= #[.pointer (some ⟨w.heap.size+1,0,none⟩),.func (.func 302) #[] #[]]) aa an ?_;have h1:=(c6u (w'.setCell ⟨w.heap.size+1,0,none⟩ (.int .i64 (chk k n l)))).mono (R':=fun e w1=>e= .returned (.tuple #[])/\w1=w'.setCell ⟨w.heap.size+1,0,none⟩ (.int .i64 (chk k n l))) fun e w1 ⟨he,hw⟩=>⟨he,hw.symm⟩
 have h3:=qX ⟨w.heap.size+1,0,none⟩ 0 (chk k n l) 302 #[] #[] #[] aa w' (fun w1=>w1=w'.setCell ⟨w.heap.size+1,0,none⟩ (.int .i64 (chk k n l))) hc hz a3v h1;refine h3.mono ?_;rintro e u' w'' ⟨rfl,rfl,rfl⟩;refine⟨.int .i64 (chk k n l),?_,rfl,((((Below.refl _ _).alloc (Nat.le_refl _) _).alloc aa _).trans (hb.mono ak)).setCell aa _⟩;simp[results,results259,go_sem,hc]
theorem b7z(k n:Int)(l:List UInt8)(w:World):eg 259 #[V k n l] w fun e w'=>e= .returned (.int .i64 (chk k n l))/\Below w.heap.size w w':=by
 by_cases h:chk k n l=0
 ·have:=c0w k n l w h;rw[h];exact this
 ·exact c0x k n l w h
end
section
end
section
def ofK(t:Int):Int:=if t=0\/t=1 then 1 else 0
def ofN(t:Int):Int:=if t=0\/t=1 then t else 0
end
section
theorem c2m(t:Int)(h0: -9223372036854775808<=t)(h1:t<=9223372036854775807)(w:World):eg 284 #[.int .i64 t] w fun e w'=>e= .returned (V (ofK t) (ofN t) [])/\Bl w w':=by
 by_cases e0:t=0
 ·subst e0;go_enter func284,ntmps284;go_wp2;exact bodyPost_ret (v:=V 1 0 []) ef rfl ⟨rfl,(Bl.refl _).alloc _⟩
 by_cases e1:t=1
 ·subst e1;go_enter func284,ntmps284;go_wp2;exact bodyPost_ret (v:=V 1 1 []) ef rfl ⟨rfl,(Bl.refl _).alloc _⟩
 have b0:(t != 0)=true:=(by simpa using e0);have b1:(t != 1)=true:=bp;have e:ofK t=0:=(by simp[ofK,e0,e1]);have e':ofN t=0:=(by simp[ofN,e0,e1]);rw[e,e'];clear e e';go_enter func284,ntmps284;go_wp2;exact bodyPost_ret (v:=V 0 0 []) ef rfl ⟨rfl,(Bl.refl _).alloc _⟩
end
section
end
section
abbrev lE(n:Int)(f:FuncId)(b:Nat):MapEntry:={key:= .int .i64 n,val:= .func (.func f) #[] #[],born:=b}
abbrev b2k:Array MapEntry:= #[lE 0 317 0,lE 1 318 1,lE 2 320 2,lE 3 321 3,lE 4 324 4]
def a8d(k:Int):FuncId:=if k=0 then 317 else if k=1 then 318 else if k=2 then 320 else if k=3 then 321 else 324
theorem d1z(w:World):(Instr.mapUpdate 303 (.map (some w.heap.size)) (.int .i64 0) (.func (.func 317) #[] #[])).run prog (w.alloc (.map #[] 0))= .ok () (w.alloc (.map #[lE 0 317 0] 1)):=
 eQ underlying303 underlying32 w #[] 0 0 _ rfl
theorem d1y(w:World):(Instr.mapUpdate 303 (.map (some w.heap.size)) (.int .i64 1) (.func (.func 318) #[] #[])).run prog (w.alloc (.map #[lE 0 317 0] 1))= .ok () (w.alloc (.map #[lE 0 317 0,lE 1 318 1] 2)):=
 eQ underlying303 underlying32 w #[lE 0 317 0] 1 1 _ rfl
theorem d1x(w:World):(Instr.mapUpdate 303 (.map (some w.heap.size)) (.int .i64 2) (.func (.func 320) #[] #[])).run prog (w.alloc (.map #[lE 0 317 0,lE 1 318 1] 2))= .ok () (w.alloc (.map #[lE 0 317 0,lE 1 318 1,lE 2 320 2] 3)):=
 eQ underlying303 underlying32 w #[lE 0 317 0,lE 1 318 1] 2 2 _ rfl
theorem d1w(w:World):(Instr.mapUpdate 303 (.map (some w.heap.size)) (.int .i64 3) (.func (.func 321) #[] #[])).run prog (w.alloc (.map #[lE 0 317 0,lE 1 318 1,lE 2 320 2] 3))= .ok () (w.alloc (.map #[lE 0 317 0,lE 1 318 1,lE 2 320 2,lE 3 321 3] 4)):=
 eQ underlying303 underlying32 w #[lE 0 317 0,lE 1 318 1,lE 2 320 2] 3 3 _ rfl
theorem d1v(w:World):(Instr.mapUpdate 303 (.map (some w.heap.size)) (.int .i64 4) (.func (.func 324) #[] #[])).run prog (w.alloc (.map #[lE 0 317 0,lE 1 318 1,lE 2 320 2,lE 3 321 3] 4))= .ok () (w.alloc (.map b2k 5)):=
 eQ underlying303 underlying32 w #[lE 0 317 0,lE 1 318 1,lE 2 320 2,lE 3 321 3] 4 4 _ rfl
theorem b0h(w:World):eg 285 #[] w fun e w'=>e= .returned (.map (some w.heap.size))/\w'=w.alloc (.map b2k 5):=by
 have hmm:= @run_makeMap prog;have h0:=d1z;have h1:=d1y;have h2:=d1x;have h3:=d1w;have h4:=d1v;go_enter func285,ntmps285;go_wp2;go_ret;exact⟨rfl,rfl⟩
theorem a5u{w:World}{r:Nat}(hb:w.heap[r]?=some (.map b2k 5)){k:Int}(h0:0<=k)(h4:k<=4):
  (Instr.lookup 303 (.map (some r)) (.int .i64 k) false).run prog w= .ok (.func (.func (a8d k)) #[] #[]) w:=by
 have hk:k=0\/k=1\/k=2\/k=3\/k=4:=aE;rcases hk with rfl|rfl|rfl|rfl|rfl
 ·exact eP underlying303 underlying32 hb (i:=0) rfl
 ·exact eP underlying303 underlying32 hb (i:=1) rfl
 ·exact eP underlying303 underlying32 hb (i:=2) rfl
 ·exact eP underlying303 underlying32 hb (i:=3) rfl
 ·exact eP underlying303 underlying32 hb (i:=4) rfl
end
section
theorem a0e{w:World}{base base':Nat}{e:TypeId}{size:Nat}{v:Value}{n:Nat}{xs:List Value}(h:w.ownsRow base e size v n xs)(hb:base'<=base):w.ownsRow base' e size v n xs:=by
 obtain⟨h1,h2|⟨g,cap,cur,hv,hg,rest⟩⟩:=h
 ·exact⟨h1,.inl h2⟩
 ·exact⟨h1,.inr ⟨g,cap,cur,hv,Nat.le_trans hb hg,rest⟩⟩
theorem iG{w:World}{base:Nat}{e:TypeId}{size:Nat}{v:Value}{n:Nat}{xs:List Value}(h:w.ownsRow base e size v n xs){k:Nat}(hk:k<base):v.ownBlock≠some k:=by
 obtain⟨h1,⟨rfl,_⟩|⟨g,cap,cur,rfl,hg,rest⟩⟩:=h
 ·simp[Value.ownBlock]
 ·simp[Value.ownBlock];omega
def KB(B b k:Nat)(o:Obj)(bs:List Value)(w:World):Prop:=
 B<=b/\b<k/\∃p v,(p= .pointer none\/p= .pointer (some ⟨b,0,none⟩))/\w.heap[b]?=some (.cells #[p,v] 183 (0,0))/\w.ownsRow (k+1) 5 1 v bs.length bs/\w.heap[k]?=some o
theorem KB.is{B b k:Nat}{o:Obj}{bs:List Value}{w:World}(h:KB B b k o bs w):Lib.IsBuilder 183 5 B b bs w:=by
 obtain⟨hB,hbk,p,v,hp,hb,ho,_⟩:=h;have hn:=iG ho (k:=b) aE;have ho':=a0e ho (base':=B) aE;rcases hp with rfl|rfl
 ·exact .inl ⟨hB,v,hb,ho',hn⟩
 ·exact .inr ⟨hB,v,hb,ho',hn⟩
theorem KB.start{B b k:Nat}{o:Obj}{w:World}(hB:B<=b)(hbk:b<k)(hb:w.heap[b]?=some (.cells #[.pointer none,.slice none 0 0] 183 (0,0)))(hk:w.heap[k]?=some o):KB B b k o [] w:=
 ⟨hB,hbk,_,_,.inl rfl,hb,⟨rfl,.inl ⟨rfl,rfl⟩⟩,hk⟩
theorem KB.lt{B b k:Nat}{o:Obj}{bs:List Value}{w:World}(h:KB B b k o bs w):B<=b/\b<k/\k<w.heap.size:=by
 obtain⟨h1,h2,p,v,_,_,_,hk⟩:=h;exact⟨h1,h2,(Array.getElem?_eq_some_iff.1 hk).1⟩
theorem KB.other{B b k:Nat}{o:Obj}{bs:List Value}{w:World}(h:KB B b k o bs w):w.heap[k]?=some o:=by
 obtain⟨_,_,p,v,_,_,_,hk⟩:=h;exact hk
set_option maxRecDepth 100000 in
theorem a6n(B b k:Nat)(o:Obj)(bs:List Value)(w:World)(h:KB B b k o bs w):
  eg 181 #[.pointer (some ⟨b,0,none⟩)] w fun e w'=>e= .returned (.tuple #[])/\(KB B b k o bs w'/\w'.cell? ⟨b,0,none⟩=some (.pointer (some ⟨b,0,none⟩))/\Below B w w'):=by
 obtain⟨hB,hbk,p,v,hp,hb,ho,hk⟩:=h;have hn:=iG ho (k:=b) aE;have c0:w.cell? ⟨b,0,none⟩=some p:=(by rw[Lib.cell_of_heap hb];rfl);have hlt:b<w.heap.size:=World.block_lt_of_cell? _ _ c0;rcases hp with rfl|rfl
 ·refine(Any.Builder_copyCheck_fresh {Tryz.lays167 with} Tryz.Builder_Extra_167.toX72 b w c0 (by simp[World.shape?,hb];rfl) (Lib.frozen_of_heap hb 0)).mono ?_;rintro e w' ⟨rfl,rfl⟩;have hb':(w.setCell ⟨b,0,none⟩ (.pointer (some ⟨b,0,none⟩))).heap[b]?=some (.cells #[.pointer (some ⟨b,0,none⟩),v] 183 (0,0)):=by
   simp[World.setCell,Array.getElem?_modify,hb]
  refine⟨rfl,⟨hB,hbk,_,v,.inr rfl,hb',?_,?_⟩,by rw[Lib.cell_of_heap hb'];rfl,(Below.refl B w).setCell (p:=⟨b,0,none⟩) hB _⟩
  ·refine ho.kept (row:=some b) ⟨rfl,rfl,rfl,by simp[World.setCell],fun k _ hk=>Below.heap_setCell _ _ _ _ (fun e=>hk (by simp[e]))⟩ ?_;exact Or.inr hn
  ·rw[Below.heap_setCell _ _ _ _ ak];exact hk
 ·refine(Any.Builder_copyCheck_used {Tryz.lays167 with} Tryz.Builder_Extra_167.toX72 b w c0).mono ?_;rintro e w' ⟨rfl,rfl⟩;exact⟨rfl,⟨hB,hbk,_,v,.inr rfl,hb,ho,hk⟩,c0,Below.refl B _⟩
set_option maxRecDepth 100000 in
theorem yK(B b k:Nat)(o:Obj)(bs:List Value)(c:Int)(w:World)(h:KB B b k o bs w)(hlen:bs.length+1<=140737488355328)(hBw:B<=w.heap.size):
  eg 325 #[.pointer (some ⟨b,0,none⟩),.int .u8 c] w fun e w'=>e= .returned .nilIface/\(KB B b k o (bs++[.int .u8 c]) w'/\Below B w w'):=by
 obtain⟨i0,hi,hz0,hz1,hz2⟩:=info_parts Tryz.Builder_Extra_167.infoByte;go_enter func325,ntmps325;go_wp2_with (go_at_call 181;refine(a6n B b k o bs _ h).mono ?_)
 rintro e w1 ⟨rfl,h1,c0,hb1⟩;obtain⟨hB,hlk,p,v,hp,hbk,hown,hk⟩:=h1;have hne:=iG hown (k:=b) aE;have hke:=iG hown (k:=k) aE;have hkl:k<w1.heap.size:=(Array.getElem?_eq_some_iff.1 hk).1;have hp':p= .pointer (some ⟨b,0,none⟩):=(by rw[Lib.cell_of_heap hbk] at c0;simpa using c0);subst hp';have c1:w1.cell? ⟨b,1,none⟩=some v:=(by rw[Lib.cell_of_heap hbk];rfl);go_wp2_with (at_builtin;refine wpList_append_own _ rfl _ _ 181 rfl (k+1) 5 i0 (.int .u8 0) 1 1 underlying181 hi hz0 hz1 hz2 rfl ae _ _ _ rfl (hown.alloc _) ⟨w1.heap.size,0,none⟩ 1 1 [.int .u8 c] rfl rfl ?c1 ?c2 ?c3 ?c4 ?c5 ?_)
 case c1=>
  intro j u hj
  match j,hj with
  |0,hj=>simp at hj;subst hj;simp[Addr.add]
 case c2=>intro u hu;simp at hu;subst hu;rfl
 case c3=>unfold maxLen;omega
 case c4=>omega
 case c5=>simp;omega
 intro v' w2 hown' hgrow hnew;have hlt:b<w1.heap.size:=World.block_lt_of_cell? _ _ c1;have hb2:w2.heap[b]?=some (.cells #[.pointer (some ⟨b,0,none⟩),v] 183 (0,0)):=by
  rw[hgrow.block b ak (fun e=>hne e.symm),Lib.alloc_old w1 _ b hlt];exact hbk
 have hk2:w2.heap[k]?=some o:=by
  rw[hgrow.block k ak (fun e=>hke e.symm),Lib.alloc_old w1 _ k hkl];exact hk
 have d0:w2.cell? ⟨b,0,none⟩=some (.pointer (some ⟨b,0,none⟩)):=(by rw[Lib.cell_of_heap hb2];rfl);have d1:w2.cell? ⟨b,1,none⟩=some v:=(by rw[Lib.cell_of_heap hb2];rfl);have f1:w2.frozen? ⟨b,1,none⟩=false:=Lib.frozen_of_heap hb2 1;obtain⟨g,cap,rfl⟩:∃g cap,v'= .slice (some ⟨g,0,none⟩) (bs.length+1) cap:=by
  rcases hown'.2 with⟨_,h0⟩|⟨g,cap,cur,hv,_⟩
  ·omega
  ·exact⟨g,cap,hv⟩
 go_wp2;go_ret;refine⟨rfl,⟨hB,hlk,_,_,.inr rfl,(?_:_=some (Obj.cells #[.pointer (some ⟨b,0,none⟩),.slice (some ⟨g,0,none⟩) (bs.length+1) cap] 183 (0,0))),?_,?_⟩,?_⟩
 ·simp[World.setCell,Array.getElem?_modify,hb2]
 ·have hn':=iG hown' (k:=b) aE;have:=hown'.kept (row:=some b) (w':=w2.setCell ⟨b,1,none⟩ (.slice (some ⟨g,0,none⟩) (bs.length+1) cap)) ⟨rfl,rfl,rfl,by simp[World.setCell],fun k _ hk=>Below.heap_setCell _ _ _ _ (fun e=>hk (by simp[e]))⟩ (Or.inr hn');simpa using this
 ·rw[Below.heap_setCell _ _ _ _ ak];exact hk2
 ·exact((hb1.alloc (by have:=hb1.size;omega) _).grown hgrow (by have:=hb1.size;simp;omega) (fun j hj=>by have:=(hown.lt j hj).1;omega)).setCell (p:=⟨b,1,none⟩) hB _
end
section
theorem c9z:prog.globalNamed "internal/strconv.uint64pow10" =some 1:=by kernel_rfl
theorem c9x:prog.globalNamed "strconv.ErrSyntax" =some 4:=by kernel_rfl
theorem c9y:prog.globalNamed "strconv.ErrRange" =some 5:=by kernel_rfl
structure nD(w:World):Prop where
 pow:Lib.TabIs prog w "internal/strconv.uint64pow10" .u64 Lib.pow10Tab
 most:∃m,w.cell? ⟨0,0,none⟩=some (.int .i64 m)
 syn:∃tp p,w.var? prog "strconv.ErrSyntax" =some #[.iface tp p]
 rng:∃tp p,w.var? prog "strconv.ErrRange" =some #[.iface tp p]
theorem b4b{w:World}{n:String}{g:Nat}{cs:Array Value}(hg:prog.globalNamed n=some g)(h:w.var? prog n=some cs):g<w.heap.size:=by
 unfold World.var? at h;simp only[hg,Option.bind_some] at h;rcases Nat.lt_or_ge g w.heap.size with h'|h'
 ·exact h'
 ·simp[Array.getElem?_eq_none h'] at h
theorem nD.bl{w w':World}(h:nD w)(hb:Bl w w'):nD w' where
 pow:=var?_below hb c9z (b4b c9z h.pow) h.pow
 most:=let⟨m,hm⟩:=h.most;⟨m,Bl.cell hb hm⟩
 syn:=let⟨t,p,hm⟩:=h.syn;⟨t,p,var?_below hb c9x (b4b c9x hm) hm⟩
 rng:=let⟨t,p,hm⟩:=h.rng;⟨t,p,var?_below hb c9y (b4b c9y hm) hm⟩
theorem nD.alloc{w:World}(h:nD w)(o:Obj):nD (w.alloc o):=h.bl ((Bl.refl w).alloc o)
def b6f:List UInt8:=[110,117,108,108]
def vS(l:List UInt8):List UInt8:=[39]++dbl l++[39]
def hexDigit(n:Nat):UInt8:=([48,49,50,51,52,53,54,55,56,57,97,98,99,100,101,102]:List UInt8).getD n 0
def hexOf(l:List UInt8):List UInt8:=l.flatMap fun c=>[hexDigit (c.toNat / 16),hexDigit (c.toNat % 16)]
def uI(l:List UInt8):List UInt8:=[120]++([39]++hexOf l++[39])
def lit(k n:Int)(l:List UInt8):List UInt8:=if k=0 then b6f else if k=1 then Lib.formatBool (n==1) else if k=2 then Lib.itoa n else if k=3 then vS l else uI l
theorem b1y{a b:List UInt8}(h:a=b):Ending.returned (S a)= .returned (S b):=by rw[h]
theorem zK(l:List UInt8)(hl:l.length<=1000000)(w:World):eg 322 #[S l] w fun e w'=>e= .returned (S ([39]++l++[39]))/\w'=w:=by
 go_enter func322,ntmps322;go_wp2;go_ret;exact⟨b1y aa,rfl⟩
theorem b6l(k n:Int)(l:List UInt8)(w:World):eg 317 #[V k n l] w fun e w'=>e= .returned (S b6f)/\Bl w w':=by
 go_enter func317,ntmps317;go_wp2;go_ret;exact⟨rfl,(Bl.refl _).alloc _⟩
theorem b6k(k n:Int)(l:List UInt8)(w:World):eg 318 #[V k n l] w fun e w'=>e= .returned (S (Lib.formatBool (n==1)))/\Bl w w':=by
 go_enter func318,ntmps318;go_wp2_with fail;refine(Tryz.strconv_FormatBool _ _).mono ?_;rintro e w' ⟨rfl,rfl⟩;go_wp2;go_ret;exact⟨rfl,(Bl.refl _).alloc _⟩
theorem Bl.regrown(w:World)(k:Nat)(os:Array Obj):Bl w (grow (w.drewN k) os):=
 ⟨rfl,rfl,rfl,by simp[grow,World.drewN],fun i hi=>by simp[grow,World.drewN,Array.getElem?_append,hi]⟩
theorem b6j(k n:Int)(l:List UInt8)(h0: -9223372036854775808<=n)(h1:n<=9223372036854775807)(w:World)(hG:nD w):eg 320 #[V k n l] w fun e w'=>e= .returned (S (Lib.itoa n))/\Bl w w':=by
 go_enter func320,ntmps320;go_wp2_with fail;refine(Tryz.strconv_FormatInt_10 n h0 h1 _ (hG.alloc _).pow).mono ?_;rintro e w' ⟨rfl,j,os,rfl⟩;go_wp2;go_ret;exact⟨rfl,((Bl.refl _).alloc _).call (Bl.regrown _ _ _)⟩
theorem b6i(k n:Int)(l:List UInt8)(hl:l.length<=1000)(w:World)(hG:nD w):eg 321 #[V k n l] w fun e w'=>e= .returned (S (vS l))/\Bl w w':=by
 obtain⟨m,hm⟩:=(hG.alloc (.cells #[.int .i64 k,.int .i64 n,S l] 34)).most;have HM:=Lib.hid hm;clear hm;have hsz:(⟨l.toArray⟩:ByteArray).size=l.length:=size_of_list l;have hct:=Lib.countB_le (⟨#[39]⟩:ByteArray) ae l.length (⟨l.toArray⟩:ByteArray) aE;have HS:=Lib.hid hsz;clear hsz;go_enter func321,ntmps321;go_wp2_with fail;refine(Tryz.strings_ReplaceAll ⟨l.toArray⟩ ⟨#[39]⟩ ⟨#[39,39]⟩ m _ (by rw[HS.o];omega) HM.o ae (by have e:(⟨#[39,39]⟩:ByteArray).size=2:=rfl;rw[HS.o,e];have:=HS.o;omega)).mono ?_;rintro e w' ⟨rfl,hb⟩;rw[show Lib.replaceAll (⟨l.toArray⟩:ByteArray).data.toList (⟨#[39]⟩:ByteArray).data.toList (⟨#[39,39]⟩:ByteArray).data.toList=dbl l from a1k l];go_wp2_with fail;refine(zK _ (by have:=a2n l;omega) _).mono ?_;rintro e w1 ⟨rfl,rfl⟩;go_wp2;go_ret;exact⟨rfl,((Bl.refl _).alloc _).call hb⟩
theorem hexOf_length(l:List UInt8):(hexOf l).length=2 * l.length:=by
 unfold hexOf;induction l with
 |nil=>rfl
 |cons c r ih=>simp[ih];omega
theorem b2m(l:List UInt8)(c:UInt8):hexOf (l++[c])=hexOf l++[hexDigit (c.toNat / 16),hexDigit (c.toNat % 16)]:=by simp[hexOf]
theorem b0q(n:Nat)(h:n<(⟨#[48,49,50,51,52,53,54,55,56,57,97,98,99,100,101,102]⟩:ByteArray).size):(⟨#[48,49,50,51,52,53,54,55,56,57,97,98,99,100,101,102]⟩:ByteArray)[n]=hexDigit n:=by
 have h':n<16:=h;have:∀m:Fin 16,(⟨#[48,49,50,51,52,53,54,55,56,57,97,98,99,100,101,102]⟩:ByteArray)[m.val]'m.isLt=hexDigit m.val:=ae;exact this ⟨n,h'⟩
theorem b0v(l:List UInt8)(w:World):∃(C:Array Value) (fz:Nat×Nat) (cap:Nat),(∀j,j<l.length->C[j]?=some (.int .u8 (l[j]?.getD 0).toNat))/\
  (convert 9 181 (S l)).run prog w= .ok (.slice (some ⟨w.heap.size,0,none⟩) l.length cap) ((w.alloc (.cells C 5 fz)).drew):=by
 refine⟨bytesRow ⟨l.toArray⟩ (grownCap w (⟨l.toArray⟩:ByteArray).size 0 5),((bytesRow ⟨l.toArray⟩ (grownCap w (⟨l.toArray⟩:ByteArray).size 0 5)).size,(bytesRow ⟨l.toArray⟩ (grownCap w (⟨l.toArray⟩:ByteArray).size 0 5)).size+1),grownCap w (⟨l.toArray⟩:ByteArray).size 0 5,?_,?_⟩;rotate_left
 ·rw[run_bytes_of_string w 9 181 5 ⟨l.toArray⟩ underlying9 underlying181 underlying5,size_of_list];rfl
 ·intro j hj;unfold bytesRow;rw[Array.getElem?_append_left cD];simp[hj]
theorem b6h(k n:Int)(l:List UInt8)(hl:l.length<=1000)(w:World):eg 324 #[V k n l] w fun e w'=>e= .returned (S (uI l))/\Bl w w':=by
 obtain⟨C,fz,cap,hC,hcv⟩:=b0v l ((w.alloc (.cells #[.int .i64 k,.int .i64 n,S l] 34)).alloc (.cells #[.pointer none,.slice none 0 0] 183));simp only[World.size_alloc] at hcv;have HC:=Lib.hid hC;clear hC;go_enter func324,ntmps324;go_wp2;go_loopw [10] (fun i wr=>∃j:Nat,j<=l.length/\i= .int .i64 j/\KB (w.heap.size+1) (w.heap.size+1) (w.heap.size+1+1) (.cells C 5 fz) (Lib.byteCells (hexOf (l.take j))) wr/\Bl w wr) (fun i _=>l.length-(intOf i).toNat)
 case atStart=>
  refine⟨0,Nat.zero_le _,rfl,KB.start (Nat.le_refl _) aE ?_ ?_,((((Bl.refl w).alloc _).alloc _).alloc _).drew⟩
  ·show(World.alloc (World.alloc (World.alloc w _) _) _).heap[w.heap.size+1]?=_;rw[aW _ _ aa,aV _ _ aa]
  ·show(World.alloc (World.alloc (World.alloc w _) _) _).heap[w.heap.size+1+1]?=_;rw[aV _ _ aa]
 case round=>
  obtain⟨j,hj,rfl,hK,hB⟩:=hrel;by_cases hlt:j<l.length
  ·obtain⟨c,hc,hcell⟩:∃c:UInt8,l[j]?=some c/\wr.cell? ⟨w.heap.size+1+1,j,none⟩=some (.int .u8 c.toNat):=
    ⟨l[j],by simp[hlt],by rw[Lib.cell_of_heap hK.other];have:=HC.o j hlt;simpa[hlt] using this⟩
   have X:=Lib.hid hc;clear hc;have hc256:c.toNat<256:=c.toNat_lt;have q1:0<=(c.toNat:Int) / 16/\(c.toNat:Int) / 16<16:=aE;have q2:0<=((c.toNat % 16:Nat):Int)/\((c.toNat % 16:Nat):Int)<16:=aE;have q3:=b7q c.toNat hc256;have hlen:=hexOf_length (l.take j);have hlt2:(l.take j).length<=1000:=ak;go_wp2_with fail;refine(yK _ _ _ _ _ _ _ hK (by simp[Lib.byteCells];omega) (by have:=hB.size;have:=hK.lt;omega)).mono ?_;rintro e w1 ⟨rfl,hK1,hB1⟩;go_wp2_with fail;refine(yK _ _ _ _ _ _ _ hK1 (by simp[Lib.byteCells];omega) (by have:=hK1.lt;omega)).mono ?_;rintro e w2 ⟨rfl,hK2,hB2⟩;go_wp2;go_roundw
   case rel=>
    refine⟨j+1,by omega,by go_num,?_,(hB.trans (hB1.mono aE)).trans (hB2.mono aE)⟩;have e:l.take (j+1)=l.take j++[c]:=(by rw[List.take_add_one,X.o];rfl);rw[e,b2m,Lib.byteCells_append];simp only[List.append_assoc] at hK2;rw[b0q,b0q] at hK2;exact hK2
   case measure=>simp[intOf];omega
  ·obtain rfl:j=l.length:=by omega
   go_wp2_with fail;refine(Tryz.Builder_String_any _ _ _ _ hK.is (by have:=hK.lt;omega)).mono ?_;rintro e w1 ⟨rfl,hB1⟩;have hlen:=hexOf_length l;rw[List.take_length];go_wp2_with fail;refine(zK _ aE _).mono ?_;rintro e w2 ⟨rfl,rfl⟩;go_wp2;go_ret;refine⟨b1y ?_,hB.trans (hB1.mono aE)⟩;simp[uI]
end
section
theorem a0s{k n:Int}{l:List UInt8}(h:chk k n l=0):l.length<=1000/\0<=k/\k<=4:=by
 unfold chk at h;split at h
 ·cases h
 ·split at h
  ·refine⟨by omega,?_,?_⟩<;>omega
  ·cases h
theorem a4v(k n:Int)(l:List UInt8)(h:chk k n l=0)(h0: -9223372036854775808<=n)(h1:n<=9223372036854775807)(w:World)(hG:nD w):
  eg (a8d k) #[V k n l] w fun e w'=>e= .returned (S (lit k n l))/\Bl w w':=by
 obtain⟨hl,k0,k4⟩:=a0s h;have hk:k=0\/k=1\/k=2\/k=3\/k=4:=aE;rcases hk with rfl|rfl|rfl|rfl|rfl
 ·exact b6l 0 n l w
 ·exact b6k 1 n l w
 ·exact b6j 2 n l h0 h1 w hG
 ·exact b6i 3 n l hl w hG
 ·exact b6h 4 n l hl w
theorem yF(k:Int)(args:Array Value)(w:World):(callFunc (a8d k) args).run prog w= .ok (.enter (a8d k) args) w:=by
 unfold a8d;split
 ·simp[go_sem]
 split
 ·simp[go_sem]
 split
 ·simp[go_sem]
 split
 ·simp[go_sem]
 ·simp[go_sem]
theorem b3i(k n:Int)(l:List UInt8)(h:chk k n l=0)(h0: -9223372036854775808<=n)(h1:n<=9223372036854775807)(w:World)(hG:nD w):
  eg 272 #[V k n l] w fun e w'=>e= .returned (.tuple #[S (lit k n l),.int .i64 0])/\Bl w w':=by
 have H:=Lib.hid h;clear h;have hmf:∀(fn:Fn) (first cap:Array Value) (w:World),(Instr.makeFunc fn first cap).run prog w= .ok (.func fn first cap) w:=fun _ _ _ _=>rfl
 go_enter_defers func272,ntmps272
 go_wp2_with fail;refine(a3g _ H.o).mono ?_;rintro e w1 ⟨rfl,hb⟩;have hb1:Bl w w1:=((((Bl.refl w).alloc _).alloc _).alloc _).call hb;obtain⟨hcl,hfz⟩:=c4a hb;have c0:=hcl w.heap.size 0 ak;have c1:=hcl w.heap.size 1 ak;have c2:=hcl w.heap.size 2 ak;have c3:=hcl (w.heap.size+1) 0 aa;have c4:=hcl (w.heap.size+1+1) 0 aa;have f3:=hfz (w.heap.size+1) 0 aa;have f4:=hfz (w.heap.size+1+1) 0 aa;simp[go_sem] at c0 c1 c2 c3 c4 f3 f4;clear hcl hfz;obtain⟨_,k0,k4⟩:=a0s H.o;have hlook:(Instr.lookup 303 (.map (some w1.heap.size)) (.int .i64 k) false).run prog ((w1.alloc (.map b2k 5)).drew)= .ok (.func (.func (a8d k)) #[] #[]) ((w1.alloc (.map b2k 5)).drew):=
  a5u (w:=(w1.alloc (.map b2k 5)).drew) (aN w1 (.map b2k 5)) k0 k4
 have hen:=yF k;have hbW:Bl w1 ((w1.alloc (.map b2k 5)).drew):=((Bl.refl w1).alloc _).drew;have hG2:=(hG.bl hb1).bl hbW;clear k0 k4;go_wp2_with fail
 go_region_held3 (fun w'=>w'.cell? ⟨w.heap.size,0,none⟩=some (.int .i64 k)/\w'.cell? ⟨w.heap.size,1,none⟩=some (.int .i64 n)/\w'.cell? ⟨w.heap.size,2,none⟩=some (S l)) (first |exact⟨c0,c1,c2⟩|exact⟨d0,d1,d2⟩|exact⟨dM (dM d0 aa) ak,dM (dM d1 aa) ak,dM (dM d2 aa) ak⟩|go_keep)
  (first
   |(go_at_call 285;(with_reducible refine(b0h _).mono ?_);rintro e w2 ⟨rfl,rfl⟩)
   |((with_reducible refine(a4v k n l H.o h0 h1 _ hG2).mono ?_);rintro e w3 ⟨rfl,hb3⟩;have d0:=Bl.cell hb3 (Bl.cell hbW c0);have d1:=Bl.cell hb3 (Bl.cell hbW c1);have d2:=Bl.cell hb3 (Bl.cell hbW c2);have d3:=Bl.cell hb3 (Bl.cell hbW c3);have d4:=Bl.cell hb3 (Bl.cell hbW c4);have g3:=Bl.frozen hb3 (Bl.cell hbW c3) (Bl.frozen hbW c3 f3);have g4:=Bl.frozen hb3 (Bl.cell hbW c4) (Bl.frozen hbW c4 f4)))
 go_wp2_with fail;refine leaves_cons (f:=240) (args:= #[.pointer (some ⟨w.heap.size+1+1,0,none⟩),.func (.func 310) #[] #[.pointer (some ⟨w.heap.size+1,0,none⟩)]]) aa an ?_;refine(vZ _ _ _).mono ?_;rintro e u' w'' ⟨rfl,rfl,rfl⟩;have r1:=dM (p:=⟨w.heap.size+1+1,0,none⟩) (u:= .int .i64 0) (eF (u:=S (lit k n l)) d3) aa;have r2:=eF (u:= .int .i64 0) (dM (p:=⟨w.heap.size+1,0,none⟩) (u:=S (lit k n l)) d4 aa);refine⟨.tuple #[S (lit k n l),.int .i64 0],?_,rfl,((hb1.call hbW).call hb3).set aa _ |>.set ak _⟩;simp[results,results272,go_sem,r1,r2]
end
section
theorem sV(a b:List UInt8)(w:World):eg 287 #[S a,S b] w fun e w'=>e= .returned (.tuple #[S (Lib.trimPrefix a b),.bool (Lib.hasPrefix a b)])/\w=w':=
 (Tryz.strings_CutPrefix ⟨a.toArray⟩ ⟨b.toArray⟩ w).mono fun _ _ ⟨he,hw⟩=>⟨he,hw.symm⟩
theorem wB(a b:List UInt8)(ha:a.length<=1000000)(w:World):eg 354 #[S a,S b] w fun e w'=>e= .returned (.tuple #[S (Lib.trimSuffix a b),.bool (Lib.hasSuffix a b)])/\w=w':=
 (Tryz.strings_CutSuffix ⟨a.toArray⟩ ⟨b.toArray⟩ w bu).mono fun _ _ ⟨he,hw⟩=>⟨he,hw.symm⟩
theorem tF(x:UInt8)(l:List UInt8)(hl:l.length<=1000000)(w:World)(hG:nD w):eg 323 #[S l,S [39,39],S [x]] w fun e w'=>e= .returned (S (pairs x l))/\Bl w w':=by
 obtain⟨m,hm⟩:=hG.most;have hsz:(⟨l.toArray⟩:ByteArray).size=l.length:=size_of_list l;have hct:=Lib.countB_le (⟨#[39,39]⟩:ByteArray) ae l.length (⟨l.toArray⟩:ByteArray) aE;have e1:(⟨#[x]⟩:ByteArray).size=1:=rfl;refine(Tryz.strings_ReplaceAll ⟨l.toArray⟩ ⟨#[39,39]⟩ ⟨#[x]⟩ m w (by rw[hsz];omega) hm ae (by rw[hsz,e1];omega)).mono ?_;rintro e w' ⟨rfl,hb⟩;refine⟨?_,hb⟩;rw[show Lib.replaceAll (⟨l.toArray⟩:ByteArray).data.toList (⟨#[39,39]⟩:ByteArray).data.toList (⟨#[x]⟩:ByteArray).data.toList=pairs x l from yS x l.length l (Nat.le_refl _)]
theorem jW(a b:List UInt8):(Lib.trimPrefix a b).length<=a.length:=by unfold Lib.trimPrefix;split<;>simp
theorem c6r(p:Addr)(l r:List UInt8)(hl:l.length<=1000000)(w:World)(hc:w.cell? p=some (S l))(hz:w.frozen? p=false)(h:a2o l=some r):
  eg 331 #[.pointer (some p),S [39],S [39]] w fun e w'=>e= .returned (.tuple #[])/\w'=w.setCell p (S r):=by
 have e:=h;unfold a2o at e;split at e
 ·rename_i hb;simp only[Bool.and_eq_true] at hb;obtain⟨b1,b2⟩:=hb;injection e with e;have E:=Lib.hid e;have H1:=Lib.hid b1;have H2:=Lib.hid b2;clear e b1 b2 h;go_enter func331,ntmps331;go_wp2_with fail;refine(sV l [39] _).mono ?_;rintro e w' ⟨rfl,rfl⟩;rw[H1.o];go_wp2_with fail;refine(wB _ [39] (by have:=jW l [39];omega) _).mono ?_;rintro e w' ⟨rfl,rfl⟩;rw[H2.o,E.o];go_wp2_with (first |(go_at_call 290;(with_reducible refine(jT _ _).mono ?_);rintro e w' ⟨rfl,rfl⟩))
  go_end0;exact⟨rfl,rfl⟩
 ·cases e
theorem c6s(p:Addr)(l:List UInt8)(hl:l.length<=1000000)(w:World)(hc:w.cell? p=some (S l))(h:a2o l=none):
  eg 331 #[.pointer (some p),S [39],S [39]] w fun e w'=>e= .panicked [{v:= .iface 47 (.int .i64 110),recovered:=false}]/\w=w':=by
 have e:=h;unfold a2o at e;split at e
 ·cases e
 rename_i hb;have hb':Lib.hasPrefix l [39]=false\/Lib.hasSuffix (Lib.trimPrefix l [39]) [39]=false:=by
  cases h1:Lib.hasPrefix l [39]<;>cases h2:Lib.hasSuffix (Lib.trimPrefix l [39]) [39]<;>simp_all
 have H:=Lib.hid hb';clear hb hb' e h;go_enter func331,ntmps331;go_wp2_with fail;refine(sV l [39] _).mono ?_;rintro e w' ⟨rfl,rfl⟩;rcases H.o with h1|h1
 ·rw[h1];clear h1;go_wp2_with fail;refine(wB _ [39] (by have:=jW l [39];omega) _).mono ?_;rintro e w' ⟨rfl,rfl⟩;go_wp2_with (first |(go_at_call 290;(with_reducible refine(kZ _ _).mono ?_);rintro e w' ⟨rfl,rfl⟩))
  exact⟨rfl,rfl,rfl⟩
 ·generalize Lib.hasPrefix l [39]=b;have H1:=Lib.hid h1;clear h1;cases b
  all_goals
   go_wp2_with fail;refine(wB _ [39] (by have:=jW l [39];omega) _).mono ?_;rintro e w' ⟨rfl,rfl⟩;rw[H1.o];go_wp2_with (first |(go_at_call 290;(with_reducible refine(kZ _ _).mono ?_);rintro e w' ⟨rfl,rfl⟩))
   exact⟨rfl,rfl,rfl⟩
theorem a3k(p:Addr)(l:List UInt8)(hl:l.length<=1000000)(w:World)(hc:w.cell? p=some (S l))(h:a2o l=none):
  eg 289 #[.pointer (some p)] w fun e w'=>e= .panicked [{v:= .iface 47 (.int .i64 110),recovered:=false}]/\w=w':=by
 have H:=Lib.hid h;clear h;go_enter func289,ntmps289;go_wp2_with fail;refine(c6s p l hl _ hc H.o).mono ?_;rintro e w' ⟨rfl,rfl⟩;exact⟨rfl,rfl,rfl⟩
def wQ(r:List UInt8):Ending:=if(pairs 0 r).contains 39 then .panicked [{v:= .iface 47 (.int .i64 110),recovered:=false}] else .returned (S (pairs 39 r))
theorem b9z:(prog.info? 21).map (fun i=>(i.zero,i.size,i.bytes))=some (some (.int .i32 0),1,4):=by kernel_rfl
theorem a2a(p:Addr)(l r:List UInt8)(hl:l.length<=1000000)(w0 w:World)(hG:nD w0)(hw0:Bl w0 w)(hp:w0.heap.size<=p.block)(hc:w.cell? p=some (S l))(hz:w.frozen? p=false)(h:a2o l=some r):
  eg 289 #[.pointer (some p)] w fun e w'=>e=wQ r/\Below p.block w w':=by
 have hr:=a0q h;have H:=Lib.hid h;clear h;have hb0:Below p.block w (w.setCell p (S r)):=(Below.refl _ w).setCell (Nat.le_refl _) _;have hG1:nD (w.setCell p (S r)):=hG.bl (hw0.set hp _);have hc1:=eF (u:=S r) hc;have hplt:p.block<(w.setCell p (S r)).heap.size:=World.block_lt_of_cell? _ _ hc1;go_enter func289,ntmps289;go_wp2_with fail;refine(c6r p l r hl _ hc hz H.o).mono ?_;rintro e w1 ⟨rfl,rfl⟩;go_wp2_with fail;generalize w.setCell p (S r)=w1 at *;refine(tF 0 r aE _ hG1).mono ?_;rintro e w2 ⟨rfl,hb2⟩;have hplt2:p.block<w2.heap.size:=Nat.lt_of_lt_of_le hplt hb2.size;have hc2:=Bl.cell hb2 hc1;have hG2:=hG1.bl hb2;have hs0:=yB 0 r.length r (Nat.le_refl _);have hB2:Below p.block w w2:=hb0.trans (hb2.mono (Nat.le_of_lt hplt));generalize hs:pairs 0 r=s0 at *;have HS:=Lib.hid hs;clear hs;go_wp2_with fail;go_loopw [3,4] (fun v b wr=>∃(pos:Nat) (xs:List Value),pos<=s0.length/\b= .bool (odd s0 pos)/\wr.heap[w2.heap.size]?=some (.stringIter ⟨s0.toArray⟩ pos)/\wr.ownsRow (w2.heap.size+1) 21 1 v xs.length xs/\xs.length<=pos/\Below w2.heap.size w2 wr) (fun _ _ wr=>s0.length-wr.iterPos w2.heap.size)
 case atStart=>
  exact⟨0,[],Nat.zero_le _,by rw[b9u],World.iter_heap _ _ _,⟨rfl,.inl ⟨rfl,rfl⟩⟩,Nat.le_refl _,(Bl.refl w2).alloc _⟩
 case round=>
  obtain⟨pos,xs,hpos,rfl,hit,hown,hxs,hB⟩:=hrel;by_cases hlt:pos<s0.length
  ·have hnx:=Lib.run_next_any_at (P:=prog) wr w2.heap.size ⟨s0.toArray⟩ pos 0 hit eI;obtain⟨q1,q2,_,_⟩:=yH s0 pos hlt;have q3:=b9v s0 pos hlt;have hit':=Lib.iterAt_heap wr w2.heap.size ⟨s0.toArray⟩ pos (pos+(Utf8.decode ⟨s0.toArray⟩ pos).2) hit;have hown':=ownsRow_iterAt hown (k:=w2.heap.size) aE ⟨s0.toArray⟩ (pos+(Utf8.decode ⟨s0.toArray⟩ pos).2);have hB':=Lib.below_iterAt hB (k:=w2.heap.size) (Nat.le_refl _) ⟨s0.toArray⟩ (pos+(Utf8.decode ⟨s0.toArray⟩ pos).2);generalize wr.iterAt w2.heap.size ⟨s0.toArray⟩ (pos+(Utf8.decode ⟨s0.toArray⟩ pos).2)=wn at *;generalize (Utf8.decode ⟨s0.toArray⟩ pos).2=d2 at *;generalize (Utf8.decode ⟨s0.toArray⟩ pos).1=d1 at *;have Q3:=Lib.hid q3;have HIT:=Lib.hid hit;clear q3 hown hB hit;have hwn:w2.heap.size+1<=wn.heap.size:=(Array.getElem?_eq_some_iff.1 hit').1;obtain⟨i0,hi,hz0,hz1,hz2⟩:=info_parts b9z;by_cases hq:d1=39
   all_goals
    first
     |(have hqb:((d1:Int)==39)=true:=by simp[hq])
     |(have hqb:((d1:Int)==39)=false:=by simp;omega)
    have HQ:=Lib.hid hq;clear hq;go_wp2_with (at_builtin;refine wpList_append_own _ rfl _ _ 344 rfl (w2.heap.size+1) 21 i0 (.int .i32 0) 1 4 underlying344 hi hz0 hz1 hz2 rfl ae _ _ _ rfl (hown'.alloc _) ⟨wn.heap.size,0,none⟩ 1 1 [.int .i32 d1] rfl rfl (cell_one_new _ _ _) (by simp[Value.oneCell']) cG aE ak ?_;intro v' w4 hown4 hgrow _)
    have hit4:w4.heap[w2.heap.size]?=some (.stringIter ⟨s0.toArray⟩ (pos+d2)):=by
     rw[hgrow.block _ ak (fun e=>iG hown' (k:=w2.heap.size) aE e.symm),aW _ _ aE];exact hit'
    have hB4:Below w2.heap.size w2 w4:=(hB'.alloc hB'.size _).grown hgrow (by have:=hB'.size;simp;omega) (fun j hj=>by have:=(hown'.lt j hj).1;omega);go_wp2;go_roundw
    case rel=>
     refine⟨pos+d2,xs++[.int .i32 d1],q2,?_,hit4,by simpa using hown4,by simp;omega,hB4⟩;rw[Q3.o];simp[HQ.o]
    case measure=>
     simp only[World.iterPos,hit4,HIT.o];omega
  ·obtain rfl:pos=s0.length:=by omega
   have hnx:=Lib.run_next_end_at (P:=prog) wr w2.heap.size ⟨s0.toArray⟩ s0.length 0 hit bu;have hcr:wr.cell? p=some (S r):=Bl.cell hB hc2;have hGr:=hG2.bl hB;have hBr:Below p.block w wr:=hB2.trans (hB.mono (Nat.le_of_lt hplt2));have hprt:p.block<=wr.heap.size:=Nat.le_trans (Nat.le_of_lt hplt2) hB.size;obtain⟨ao,cap,rfl⟩:∃ao cap,u3= .slice ao xs.length cap:=by
    rcases hown.2 with⟨h1,h2⟩|⟨g,cap,cur,h1,_⟩
    ·exact⟨none,0,by rw[h1,h2]⟩
    ·exact⟨_,cap,h1⟩
   have hle:decide (xs.length<=r.length)=true:=ak;rw[c3i];clear hown hit hpos hlt;cases hcon:s0.contains 39
   ·have HC:=Lib.hid hcon;clear hcon;go_wp2_with (first |(go_at_call 290;(with_reducible refine(jT _ _).mono ?_);rintro e w' ⟨rfl,rfl⟩))
    refine(tF 39 r aE _ hGr).mono ?_;rintro e w5 ⟨rfl,hb5⟩;go_wp2;go_ret;exact⟨by unfold wQ;rw[HS.o,HC.o];rfl,hBr.trans (hb5.mono hprt)⟩
   ·have HC:=Lib.hid hcon;clear hcon;go_wp2_with (first |(go_at_call 290;(with_reducible refine(kZ _ _).mono ?_);rintro e w' ⟨rfl,rfl⟩))
    exact⟨rfl,by unfold wQ;rw[HS.o,HC.o];rfl,hBr⟩
end
section
theorem c2k(l:List UInt8)(hl:l.length<=1000000)(w:World):eg 329 #[S l,S iF] w fun e w'=>e= .returned (S (Lib.trimS l iF))/\Bl w w':=
 (Tryz.strings_Trim_laid ⟨l.toArray⟩ ⟨iF.toArray⟩ w bu ae (by
  intro j b hb;have:b∈iF:=List.mem_of_getElem? (show iF[j]?=some b from hb);simp only[iF,List.mem_cons,List.mem_nil_iff,or_false] at this;rcases this with rfl|rfl|rfl|rfl|rfl|rfl|rfl|rfl|rfl|rfl|rfl|rfl|rfl|rfl|rfl|rfl<;>decide)).mono fun _ _ ⟨he,hw⟩=>⟨he,hw⟩
theorem a0x(l:List UInt8)(c:UInt8)(w:World):eg 330 #[S l,.int .u8 c.toNat] w fun e w'=>e= .returned (.int .i64 (Lib.indexByte l c))/\w'=w:=
 (Tryz.strings_IndexByte ⟨l.toArray⟩ c.toNat w).mono fun _ _ ⟨he,hw⟩=>⟨by rw[he];simp,hw⟩
theorem b0w(l:List UInt8)(hl:l.length<=1000000)(w:World)(h:¬(l.length % 2=0/\∀c∈l,vE c=true)):
  eg 288 #[S l] w fun e w'=>e= .panicked [{v:= .iface 47 (.int .i64 110),recovered:=false}]/\Bl w w':=by
 by_cases he:l.length % 2=0
 ·have hb:((l.length:Int) % 2==0)=true:=by simp;omega
  have ht:¬Lib.trimS l iF=[]:=fun e=>h ⟨he,fun c hc=>(wK l iF).1 e c hc⟩;have HE:=Lib.hid he;clear h he;go_enter func288,ntmps288;go_wp2_with fail;refine(c2k l hl _).mono ?_;rintro e w1 ⟨rfl,hb1⟩;generalize Lib.trimS l iF=t at *;have ht':t.isEmpty=false:=cI;go_wp2_with (first |(go_at_call 290;(with_reducible refine(kZ _ _).mono ?_);rintro e w' ⟨rfl,rfl⟩))
  exact⟨rfl,rfl,hb1⟩
 ·have hb:((l.length:Int) % 2==0)=false:=by simp;omega
  have HE:=Lib.hid he;clear h he;go_enter func288,ntmps288;go_wp2_with (first |(go_at_call 290;(with_reducible refine(kZ _ _).mono ?_);rintro e w' ⟨rfl,rfl⟩))
  exact⟨rfl,rfl,Bl.refl _⟩
theorem infoByte:(prog.info? 5).map (fun i=>(i.zero,i.size,i.bytes))=some (some (.int .u8 0),1,1):=by kernel_rfl
theorem b0u(l:List UInt8)(hl:l.length<=1000000)(w:World)(he:l.length % 2=0)(hall:∀c∈l,vE c=true):
  eg 288 #[S l] w fun e w'=>e= .returned (S (unhex l))/\Bl w w':=by
 have hb:((l.length:Int) % 2==0)=true:=ak;have ht:Lib.trimS l iF=[]:=(wK l iF).2 fun c hc=>hall c hc;have HT:=Lib.hid ht;have HE:=Lib.hid he;have HA:=Lib.hid hall;clear ht he hall;go_enter func288,ntmps288;go_wp2_with fail;refine(c2k l hl _).mono ?_;rintro e w1 ⟨rfl,hb1⟩;rw[HT.o];go_wp2_with (first |(go_at_call 290;(with_reducible refine(jT _ _).mono ?_);rintro e w' ⟨rfl,rfl⟩))
 go_loopw [3,4] (fun v i wr=>∃m:Nat,m<=l.length/\Hid (m % 2=0)/\i= .int .i64 (m:Int)/\wr.ownsRow w1.heap.size 5 1 v (Lib.byteCells (unhex (l.take m))).length (Lib.byteCells (unhex (l.take m)))/\Bl w1 wr) (fun _ i _=>l.length-(intOf i).toNat)
 case atStart=>exact⟨0,by omega,rfl,rfl,⟨rfl,.inl ⟨rfl,rfl⟩⟩,Bl.refl _⟩
 case round=>
  obtain⟨m,hm,HM,rfl,hown,hB⟩:=hrel;by_cases hlt:m<l.length
  ·have hlt1:m+1<l.length:=by have:=HE.o;have:=HM.o;omega
   obtain⟨a,ha,ca⟩:∃a:Nat,a<16/\hv (l[m]'hlt)=a:=by
    obtain⟨h0,h1⟩:=uW (l[m]'hlt) (HA.o _ (List.getElem_mem ..));exact⟨(hv l[m]).toNat,by omega,by omega⟩
   obtain⟨b,hb',cb⟩:∃b:Nat,b<16/\hv (l[m+1]'hlt1)=b:=by
    obtain⟨h0,h1⟩:=uW (l[m+1]'hlt1) (HA.o _ (List.getElem_mem ..));exact⟨(hv l[m+1]).toNat,by omega,by omega⟩
   have i1:∀W,eg 330 #[.string ⟨#[48,49,50,51,52,53,54,55,56,57,97,98,99,100,101,102]⟩,.int .u8 ((⟨l.toArray⟩:ByteArray)[m]' eI).toNat] W fun e w'=>e= .returned (.int .i64 (a:Int))/\w'=W:=fun W=>
    (a0x iF _ W).mono fun _ _ ⟨he,hw⟩=>⟨by rw[he,<-ca];rfl,hw⟩
   have i2:∀W,eg 330 #[.string ⟨#[48,49,50,51,52,53,54,55,56,57,97,98,99,100,101,102]⟩,.int .u8 ((⟨l.toArray⟩:ByteArray)[m+1]'(by rw[size_of_list];exact hlt1)).toNat] W fun e w'=>e= .returned (.int .i64 (b:Int))/\w'=W:=fun W=>
    (a0x iF _ W).mono fun _ _ ⟨he,hw⟩=>⟨by rw[he,<-cb];rfl,hw⟩
   have I1:=Lib.hid i1;have I2:=Lib.hid i2;have CA:=Lib.hid ca;have CB:=Lib.hid cb;have hor:=or_digits ⟨a,ha⟩ ⟨b,hb'⟩;clear i1 i2 ca cb;obtain⟨i0,hi,hz0,hz1,hz2⟩:=info_parts infoByte;have hul:=tY (l.take m);have hul2:(l.take m).length<=1000000:=ak;have hln1:(Lib.byteCells (unhex (l.take m))).length+1<=maxLen:=(by rw[Lib.byteCells_length];unfold maxLen;omega);have hln2:((Lib.byteCells (unhex (l.take m))).length+1) * 1<=140737488355328:=(by rw[Lib.byteCells_length];omega);have hln3:w1.heap.size<=((wr.alloc (.cells #[.int .u8 ((a:Int) * 16+(b:Int))] 5)).drew).heap.size:=(by have:=hB.size;simp;omega);have x1:IntKind.i64.wrap ((m:Int)+1)=(m:Int)+1:=IntWalk.i64_in _ aE;have x2:((m:Int)+1).toNat=m+1:=aE;have x3:0<=(m:Int)+1/\(m:Int)+1<(l.length:Int):=aE;have x4:IntKind.i64.wrap ((a:Int) * 16)=(a:Int) * 16:=IntWalk.i64_in _ aE;have x5:IntKind.u8.wrap ((a:Int) * 16+(b:Int))=(a:Int) * 16+(b:Int):=(by simp[IntKind.wrap,IntKind.bits,IntKind.signed];omega);go_wp2_with fail
   go_region_held3 (fun _=>True) (trivial)
    (first
     |((with_reducible refine(I1.o _).mono ?_);rintro e w' ⟨rfl,rfl⟩)
     |((with_reducible refine(I2.o _).mono ?_);rintro e w' ⟨rfl,rfl⟩)
     |(refine step_append_lies _ ab _ _ _ ab w1.heap.size 5 i0 _ 1 1 underlying181 hi hz0 hz1 hz2 rfl aE u3 _ _ ab ((hown.alloc _).drew) ⟨wr.heap.size,0,none⟩ 1 1 [.int .u8 ((a:Int) * 16+(b:Int))] ab ab (World.news_of_block (cs:= #[.int .u8 ((a:Int) * 16+(b:Int))]) (t:=5) (fr:=(0,0)) (aN wr _)) (by simp[Value.oneCell']) aE hln1 hln2 hln3 (wr.heap.size+1) aa ?_;intro gg cap w3 hown3 hgrow hat hlt3))
   all_goals
    have _k:=x3;clear x4 x5 hor;go_wp2;go_roundw
    case rel=>
     refine⟨m+2,by omega,by have:=HM.o;show(m+2) % 2=0;omega,by go_num,?_,?_⟩
     ·have e:Lib.byteCells (unhex (l.take (m+2)))=Lib.byteCells (unhex (l.take m))++[.int .u8 ((a:Int) * 16+(b:Int))]:=by
       rw[a1q l m HM.o hlt hlt1,Lib.byteCells_append,CA.o,CB.o]
       congr 1
       simp only[Lib.byteCells,List.map_cons,List.map_nil];have:((16 * (a:Int)+(b:Int)).toNat) % 256=16 * a+b:=aE;simp only[UInt8.toNat_ofNat',this]
       congr 2
       omega
      rw[e];simpa using hown3
     ·exact Below.grown (Bl.drew (Bl.alloc hB _)) hgrow (by have:=hB.size;simp;omega) (fun k hk=>(hown.lt k hk).1)
    case measure=>simp[intOf];omega
  ·obtain rfl:m=l.length:=by omega
   rw[List.take_length] at hown;rcases hown.2 with⟨rfl,h2⟩|⟨g,cap,cur,rfl,hg,hcur,_⟩
   ·have hu:unhex l=[]:=by simpa[Lib.byteCells] using h2
    have hcv:=run_convert_bytes_nil (P:=prog) wr 181 5 underlying181 underlying5 0 0 9 underlying9;have HU:=Lib.hid hu;clear hu h2 hown;go_wp2;go_ret;exact⟨by rw[HU.o];rfl,hb1.call hB⟩
   ·have hcv:=run_convert_bytes_back (P:=prog) wr 181 9 5 ⟨g,0,none⟩ cap (unhex l) underlying181 underlying5 underlying9 (by
     intro j hj;have:=hown.cellAt j (by simp[Lib.byteCells_length];exact hj);rw[show(⟨g,0,none⟩:Addr).add j=⟨g,j,none⟩ by simp[Addr.add];omega,this];simp[Lib.byteCells,List.getElem?_eq_getElem hj])
    rw[Lib.byteCells_length] at *;clear hown hcur;go_wp2;go_ret;exact⟨rfl,hb1.call hB⟩
end
section
def yT(t:Nat):List UInt8:=lit (ofK t) (ofN t) []
def oH(s:List UInt8):Option (Int×Int):=if yT 0=s then some (1,0) else if yT 1=s then some (1,1) else if yT 2=s then some (0,0) else none
def jX(s:List UInt8):Option Int:=match Lib.parseIntB 64 s with
 | .ok n=>if Lib.itoa n=s then some n else none
 |_=>none
def wS(q:List UInt8):Prop:=q.length % 2=0/\∀c∈q,vE c=true
instance (q:List UInt8):Decidable (wS q):=by unfold wS;infer_instance
def iD(s:List UInt8):Option (Int×List UInt8):=
 if Lib.hasPrefix s [120] then(unq (Lib.trimPrefix s [120])).bind fun q=>if wS q then some (4,unhex q) else none
 else(unq s).map fun q=>(3,q)
def mW(s:List UInt8):Option (Int×Int×List UInt8):=
 match oH s with
 |some (k,n)=>some (k,n,[])
 |none=>match jX s with
  |some n=>some (2,n,[])
  |none=>(iD s).map fun x=>(x.1,0,x.2)
def pX(s:List UInt8):Ending:=match mW s with
 |some (k,n,l)=> .returned (V k n l)
 |none=> .panicked [{v:= .iface 47 (.int .i64 110),recovered:=false}]
theorem c6t(t:Nat):chk (ofK t) (ofN t) []=0:=by
 unfold ofK ofN;split
 ·rename_i h;rcases h with h|h<;>rw[h]<;>decide
 ·decide
theorem b6m{s:List UInt8}(t:Nat)(ht:t<3)(hne:∀j,j<t->yT j≠s)(he:yT t=s):oH s=some (ofK t,ofN t):=by
 have h3:t=0\/t=1\/t=2:=aE;rcases h3 with rfl|rfl|rfl
 ·simp[oH,he];decide
 ·simp[oH,he,hne 0 aE];decide
 ·simp[oH,he,hne 0 aE,hne 1 aE];decide
theorem a8e{s:List UInt8}(hne:∀j,j<3->yT j≠s):oH s=none:=by
 simp[oH,hne 0 aE,hne 1 aE,hne 2 aE]
theorem a5k{s:List UInt8}{k n:Int}(h:oH s=some (k,n)):Ending.returned (V k n [])=pX s:=by
 simp[pX,mW,h]
theorem Bl.bytes(w:World)(e:TypeId)(t:ByteArray):Bl w (Lib.bytesWorld w e t):=
 ⟨rfl,rfl,rfl,by rw[Lib.bytesWorld_size];omega,fun k hk=>Lib.bytesWorld_at_old w e t k hk⟩
theorem a8y(s:List UInt8)(hs:s.length<=10000)(v:Int)(h:Lib.parseIntB 64 s= .ok v)(w:World):
  eg 286 #[S s,.int .i64 10,.int .i64 64] w fun e w'=>e= .returned (.tuple #[.int .i64 v,.nilIface])/\Bl w w':=by
 refine(Tryz.strconv_ParseInt_10_at64_ok ⟨s.toArray⟩ bu v h w).mono ?_;rintro e w' ⟨rfl,rfl|⟨t,rfl⟩⟩
 ·exact⟨rfl,Bl.refl _⟩
 ·exact⟨rfl,Bl.bytes _ _ _⟩
def c7b(w:World)(e:Ending)(w':World):Prop:=∃(x:Int) (N:Nat),e= .returned (.tuple #[.int .i64 x,.iface 353 (.pointer (some ⟨N,0,none⟩))])/\Bl w w'
theorem a8z(s:List UInt8)(hs:s.length<=10000)(h:∀v,Lib.parseIntB 64 s≠ .ok v)(w:World)(hG:nD w):
  eg 286 #[S s,.int .i64 10,.int .i64 64] w (c7b w):=by
 cases hp:Lib.parseIntB 64 s with
 |ok v=>exact absurd hp (h v)
 |range=>
  obtain⟨tp,p,hv⟩:=hG.rng;refine(Any.strconv_ParseInt_10_at64_range_var Tryz.laysC174 ⟨s.toArray⟩ bu hp tp p w hv).mono ?_;rintro e w' ⟨N,he,_,_,hb⟩;exact⟨_,N,he,hb⟩
 |_=>
  obtain⟨tp,p,hv⟩:=hG.syn;refine(Any.strconv_ParseInt_10_at64_syntax_var Tryz.laysC174 ⟨s.toArray⟩ bu hp tp p w hv).mono ?_;rintro e w' ⟨N,he,_,_,hb⟩;exact⟨_,N,he,hb⟩
theorem sN{s q:List UInt8}(hs:s.length<=10000)(h:unq s=some q)(wN W:World)(hG:nD wN)(hW:Bl wN W)(hc:W.cell? ⟨wN.heap.size,0,none⟩=some (S s))(hz:W.frozen? ⟨wN.heap.size,0,none⟩=false):
  eg 289 #[.pointer (some ⟨wN.heap.size,0,none⟩)] W fun e w'=>e= .returned (S q)/\Bl wN w':=by
 unfold unq at h;cases hq:a2o s with
 |none=>rw[hq] at h;cases h
 |some r=>
  rw[hq] at h;simp only[Option.bind_some] at h;refine(a2a ⟨wN.heap.size,0,none⟩ s r aE wN W hG hW (Nat.le_refl _) hc hz hq).mono ?_;rintro e w' ⟨rfl,hb⟩;refine⟨?_,hW.trans hb⟩;unfold wQ;split at h
  ·cases h
  ·rename_i hn;rw[if_neg hn];injection h with h;rw[h]
theorem sO{s:List UInt8}(hs:s.length<=10000)(h:unq s=none)(wN W:World)(hG:nD wN)(hW:Bl wN W)(hc:W.cell? ⟨wN.heap.size,0,none⟩=some (S s))(hz:W.frozen? ⟨wN.heap.size,0,none⟩=false):
  eg 289 #[.pointer (some ⟨wN.heap.size,0,none⟩)] W fun e w'=>e= .panicked [{v:= .iface 47 (.int .i64 110),recovered:=false}]/\Bl wN w':=by
 unfold unq at h;cases hq:a2o s with
 |none=>
  refine(a3k ⟨wN.heap.size,0,none⟩ s aE W hc hq).mono ?_;rintro e w' ⟨rfl,rfl⟩;exact⟨rfl,hW⟩
 |some r=>
  rw[hq] at h;simp only[Option.bind_some] at h;refine(a2a ⟨wN.heap.size,0,none⟩ s r aE wN W hG hW (Nat.le_refl _) hc hz hq).mono ?_;rintro e w' ⟨rfl,hb⟩;refine⟨?_,hW.trans hb⟩;unfold wQ;split at h
  ·rename_i hn;rw[if_pos hn]
  ·cases h
theorem xI{s q:List UInt8}(h:unq s=some q):q.length<=s.length:=by
 unfold unq at h;cases hq:a2o s with
 |none=>rw[hq] at h;cases h
 |some r=>
  rw[hq] at h;simp only[Option.bind_some] at h;split at h
  ·cases h
  ·injection h with h;have:=a0q hq;have:=yB 39 r.length r (Nat.le_refl _);rw[<-h];omega
theorem vK{s:List UInt8}{v:Int}(h:Lib.parseIntB 64 s= .ok v): -9223372036854775808<=v/\v<=9223372036854775807:=by
 have:=Lib.parseIntB_bounds h;simp at this;omega
theorem a7s{s:List UInt8}{v:Int}(h:oH s=none)(hp:Lib.parseIntB 64 s= .ok v)(hi:Lib.itoa v=s):Ending.returned (V 2 v [])=pX s:=by
 simp[pX,mW,h,jX,hp,hi]
theorem a7r{s:List UInt8}{v:Int}(hp:Lib.parseIntB 64 s= .ok v)(hi:¬Lib.itoa v=s):jX s=none:=by
 simp[jX,hp,hi]
theorem b2a{s:List UInt8}(hp:∀v,Lib.parseIntB 64 s≠ .ok v):jX s=none:=by
 unfold jX;split
 ·rename_i v hv;exact absurd hv (hp v)
 ·rfl
theorem qU{s:List UInt8}{k:Int}{l:List UInt8}(h:oH s=none)(hn:jX s=none)(hr:iD s=some (k,l)):Ending.returned (V k 0 l)=pX s:=by
 simp[pX,mW,h,hn,hr]
theorem mK{s:List UInt8}(h:oH s=none)(hn:jX s=none)(hr:iD s=none):Ending.panicked [{v:= .iface 47 (.int .i64 110),recovered:=false}]=pX s:=by
 simp[pX,mW,h,hn,hr]
theorem a9t(s:List UInt8)(hs:s.length<=10000)(w:World)(hG:nD w):eg 242 #[S s] w fun e w'=>e=pX s/\Bl w w':=by
 go_enter func242,ntmps242;go_wp2_with fail;go_loopw [3] (fun i wr=>∃t:Nat,t<=3/\i= .int .i64 (t:Int)/\Hid (∀j,j<t->yT j≠s)/\Bl w wr/\wr.heap[w.heap.size]?=some (.cells #[.int .i64 0,.int .i64 0,S []] 34 (0,0))) (fun i _=>3-(intOf i).toNat)
 case atStart=>exact⟨0,by omega,rfl,fun j hj=>by omega,(Bl.refl w).alloc _,aN w _⟩
 case round=>
  obtain⟨t,ht,rfl,HN,hB,hres⟩:=hrel;by_cases hlt:t<3
  ·have hGr:=hG.bl hB;go_wp2_with fail;refine(c2m (t:Int) aE aE _).mono ?_;rintro e w1 ⟨rfl,hb1⟩;have hc:=c6t t;generalize hk:ofK (t:Int)=k at *;generalize hn:ofN (t:Int)=n at *;have HK:=Lib.hid hk;have HNn:=Lib.hid hn;have HC:=Lib.hid hc;clear hk hn hc;obtain⟨_,k0,k4⟩:=a0s HC.o;have hn0: -9223372036854775808<=n:=(by rw[<-HNn.o];unfold ofN;split<;>omega);have hn1:n<=9223372036854775807:=(by rw[<-HNn.o];unfold ofN;split<;>omega);have N0:=Lib.hid hn0;have N1:=Lib.hid hn1;clear hn0 hn1;go_wp2_with fail;have bW:Bl w1 (w1.alloc (.cells #[.int .i64 k,.int .i64 n,.string ⟨#[]⟩] 34)):=(Bl.refl w1).alloc _;have c0:(w1.alloc (.cells #[.int .i64 k,.int .i64 n,.string ⟨#[]⟩] 34)).cell? ⟨w1.heap.size,0,none⟩=some (.int .i64 k):=an;have c1:(w1.alloc (.cells #[.int .i64 k,.int .i64 n,.string ⟨#[]⟩] 34)).cell? ⟨w1.heap.size,1,none⟩=some (.int .i64 n):=an;have c2:(w1.alloc (.cells #[.int .i64 k,.int .i64 n,.string ⟨#[]⟩] 34)).cell? ⟨w1.heap.size,2,none⟩=some (.string ⟨#[]⟩):=an;generalize w1.alloc (.cells #[.int .i64 k,.int .i64 n,.string ⟨#[]⟩] 34)=W at *;have hlook:(Instr.lookup 303 (.map (some W.heap.size)) (.int .i64 k) false).run prog ((W.alloc (.map b2k 5)).drew)= .ok (.func (.func (a8d k)) #[] #[]) ((W.alloc (.map b2k 5)).drew):=
    a5u (w:=(W.alloc (.map b2k 5)).drew) (aN W (.map b2k 5)) k0 k4
   have hen:=yF k;have hbW:Bl W ((W.alloc (.map b2k 5)).drew):=((Bl.refl W).alloc _).drew;have hbWr:Bl wr W:=hb1.call bW;have hG2:=(hGr.bl hbWr).bl hbW;clear k0 k4
   go_region_held3 (fun w'=>w'.cell? ⟨w1.heap.size,0,none⟩=some (.int .i64 k)/\w'.cell? ⟨w1.heap.size,1,none⟩=some (.int .i64 n)/\w'.cell? ⟨w1.heap.size,2,none⟩=some (.string ⟨#[]⟩)) (first |exact⟨c0,c1,c2⟩|exact⟨d0,d1,d2⟩|go_keep)
    (first
     |(go_at_call 285;(with_reducible refine(b0h _).mono ?_);rintro e w2 ⟨rfl,rfl⟩)
     |((with_reducible refine(a4v k n [] HC.o N0.o N1.o _ hG2).mono ?_);rintro e w3 ⟨rfl,hb3⟩;have d0:=Bl.cell hb3 (Bl.cell hbW c0);have d1:=Bl.cell hb3 (Bl.cell hbW c1);have d2:=Bl.cell hb3 (Bl.cell hbW c2)))
   have hbw3:Bl wr w3:=(hbWr.call hbW).call hb3;have hlw:w.heap.size<wr.heap.size:=(Array.getElem?_eq_some_iff.1 hres).1;have hres3:w3.heap[w.heap.size]?=some (.cells #[.int .i64 0,.int .i64 0,S []] 34 (0,0)):=(hbw3.block _ hlw).trans hres;have r0:w3.cell? ⟨w.heap.size,0,none⟩=some (.int .i64 0):=cV;have r1:w3.cell? ⟨w.heap.size,1,none⟩=some (.int .i64 0):=cV;have r2:w3.cell? ⟨w.heap.size,2,none⟩=some (S []):=cV;have z0:=Lib.frozen_of_heap hres3 0;have z1:=Lib.frozen_of_heap hres3 1;have z2:=Lib.frozen_of_heap hres3 2;go_wp2
   ·have hq:lit k n []=s:=by simpa using ‹(lit k n []==s)=true›
    have y0:=dE (p:=⟨w.heap.size,2,none⟩) (u:= .string ⟨#[]⟩) (dE (p:=⟨w.heap.size,1,none⟩) (u:= .int .i64 n) (eF (u:= .int .i64 k) r0) aa) aa;have y1:=dE (p:=⟨w.heap.size,2,none⟩) (u:= .string ⟨#[]⟩) (eF (u:= .int .i64 n) (dE (p:=⟨w.heap.size,0,none⟩) (u:= .int .i64 k) r1 aa)) aa;have y2:=eF (u:= .string ⟨#[]⟩) (dE (p:=⟨w.heap.size,1,none⟩) (u:= .int .i64 n) (dE (p:=⟨w.heap.size,0,none⟩) (u:= .int .i64 k) r2 aa) aa);refine bodyPost_ret (v:=V k n []) cR rfl ⟨a5k ?_,(((hB.call hbw3).set (Nat.le_refl _) _).set (Nat.le_refl _) _).set (Nat.le_refl _) _⟩;have:=b6m t hlt HN.o (by unfold yT;rw[HK.o,HNn.o];exact hq);rw[this,HK.o,HNn.o]
   ·have hq:¬lit k n []=s:=by simpa using ‹(lit k n []==s)=false›
    go_roundw
    case rel=>
     refine⟨t+1,by omega,by go_num,?_,hB.call hbw3,hres3⟩;intro j hj;by_cases hjt:j<t
     ·exact HN.o j hjt
     ·obtain rfl:j=t:=by omega
      unfold yT;rw[HK.o,HNn.o];exact hq
    case measure=>simp[intOf];omega
  ·obtain rfl:t=3:=by omega
   have hnone:=a8e HN.o;have HNO:=Lib.hid hnone;clear hnone HN;have hGr:=hG.bl hB;have hlw:w.heap.size<wr.heap.size:=(Array.getElem?_eq_some_iff.1 hres).1;go_wp2_with fail;by_cases hp:∃v,Lib.parseIntB 64 s= .ok v
   ·obtain⟨v,hv⟩:=hp;obtain⟨v0,v1⟩:=vK hv;refine(a8y s hs v hv _).mono ?_;rintro e w2 ⟨rfl,hb2⟩;have PV:=Lib.hid hv;clear hv;go_wp2_with fail;refine(Tryz.strconv_FormatInt_10 v v0 v1 _ (hGr.bl hb2).pow).mono ?_;rintro e w3 ⟨rfl,j,os,hw3⟩;have hb3:Bl wr w3:=hb2.call (by rw[hw3];exact Bl.regrown _ _ _);clear hw3 hb2;have hres3:w3.heap[w.heap.size]?=some (.cells #[.int .i64 0,.int .i64 0,S []] 34 (0,0)):=(hb3.block _ hlw).trans hres;have r0:w3.cell? ⟨w.heap.size,0,none⟩=some (.int .i64 0):=cV;have r1:w3.cell? ⟨w.heap.size,1,none⟩=some (.int .i64 0):=cV;have r2:w3.cell? ⟨w.heap.size,2,none⟩=some (S []):=cV;have z0:=Lib.frozen_of_heap hres3 0;have z1:=Lib.frozen_of_heap hres3 1;have z2:=Lib.frozen_of_heap hres3 2;go_wp2_with fail
    ·have hq:Lib.itoa v=s:=by simpa using ‹(Lib.itoa v==s)=true›
     have y0:=dE (p:=⟨w.heap.size,2,none⟩) (u:= .string ⟨#[]⟩) (dE (p:=⟨w.heap.size,1,none⟩) (u:= .int .i64 v) (eF (u:= .int .i64 2) r0) aa) aa;have y1:=dE (p:=⟨w.heap.size,2,none⟩) (u:= .string ⟨#[]⟩) (eF (u:= .int .i64 v) (dE (p:=⟨w.heap.size,0,none⟩) (u:= .int .i64 2) r1 aa)) aa;have y2:=eF (u:= .string ⟨#[]⟩) (dE (p:=⟨w.heap.size,1,none⟩) (u:= .int .i64 v) (dE (p:=⟨w.heap.size,0,none⟩) (u:= .int .i64 2) r2 aa) aa);refine bodyPost_ret (v:=V 2 v []) cR rfl ⟨a7s HNO.o PV.o hq,((((hB.call hb3)).set (Nat.le_refl _) _).set (Nat.le_refl _) _).set (Nat.le_refl _) _⟩
    ·have hq:¬Lib.itoa v=s:=by simpa using ‹(Lib.itoa v==s)=false›
     have NUM:=Lib.hid (a7r PV.o hq);clear hq r0 r1 r2 z0 z1 z2;refine(sV s [120] _).mono ?_;rintro e w4 ⟨rfl,rfl⟩;have hG3:=hGr.bl hb3;have hb30:=hB.call hb3;cases hx:Lib.hasPrefix s [120]
     ·have HX:=Lib.hid hx;have htp:Lib.trimPrefix s [120]=s:=(by simp[Lib.trimPrefix,hx]);rw[htp];clear hx htp;go_wp2_with fail;cases hu:unq s with
      |none=>
       have HU:=Lib.hid hu;clear hu;refine(sO hs HU.o w3 _ hG3 ((Bl.refl w3).alloc _) an an).mono ?_;rintro e w5 ⟨rfl,hb5⟩;exact⟨rfl,mK HNO.o NUM.o eE,hb30.call hb5⟩
      |some q=>
       have HU:=Lib.hid hu;clear hu;refine(sN hs HU.o w3 _ hG3 ((Bl.refl w3).alloc _) an an).mono ?_;rintro e w5 ⟨rfl,hb5⟩;have hb35:=hb3.call hb5;have hres5:w5.heap[w.heap.size]?=some (.cells #[.int .i64 0,.int .i64 0,S []] 34 (0,0)):=(hb35.block _ hlw).trans hres;have r0:w5.cell? ⟨w.heap.size,0,none⟩=some (.int .i64 0):=cW;have r1:w5.cell? ⟨w.heap.size,1,none⟩=some (.int .i64 0):=cW;have r2:w5.cell? ⟨w.heap.size,2,none⟩=some (S []):=cW;have z0:=Lib.frozen_of_heap hres5 0;have z1:=Lib.frozen_of_heap hres5 1;have z2:=Lib.frozen_of_heap hres5 2;go_wp2;have y0:=dE (p:=⟨w.heap.size,2,none⟩) (u:=S q) (dE (p:=⟨w.heap.size,1,none⟩) (u:= .int .i64 0) (eF (u:= .int .i64 3) r0) aa) aa;have y1:=dE (p:=⟨w.heap.size,2,none⟩) (u:=S q) (eF (u:= .int .i64 0) (dE (p:=⟨w.heap.size,0,none⟩) (u:= .int .i64 3) r1 aa)) aa;have y2:=eF (u:=S q) (dE (p:=⟨w.heap.size,1,none⟩) (u:= .int .i64 0) (dE (p:=⟨w.heap.size,0,none⟩) (u:= .int .i64 3) r2 aa) aa);refine bodyPost_ret (v:=V 3 0 q) cR rfl ⟨qU HNO.o NUM.o eE,((((hb30.call hb5)).set (Nat.le_refl _) _).set (Nat.le_refl _) _).set (Nat.le_refl _) _⟩
     ·have HX:=Lib.hid hx;have htl:=jW s [120];generalize htp:Lib.trimPrefix s [120]=x at *;have HT:=Lib.hid htp;clear hx htp;go_wp2_with fail;cases hu:unq x with
      |none=>
       have HU:=Lib.hid hu;clear hu;refine(sO aE HU.o w3 _ hG3 ((Bl.refl w3).alloc _) an an).mono ?_;rintro e w5 ⟨rfl,hb5⟩;exact⟨rfl,mK HNO.o NUM.o (by unfold iD;rw[HX.o,HT.o];simp[HU.o]),hb30.call hb5⟩
      |some q=>
       have HU:=Lib.hid hu;have hql:=xI hu;clear hu;refine(sN aE HU.o w3 _ hG3 ((Bl.refl w3).alloc _) an an).mono ?_;rintro e w5 ⟨rfl,hb5⟩;go_wp2_with fail;by_cases hh:wS q
       ·have HH:=Lib.hid hh;clear hh;refine(b0u q aE _ HH.o.1 HH.o.2).mono ?_;rintro e w6 ⟨rfl,hb6⟩;have hb36:=(hb3.call hb5).call hb6;have hres6:w6.heap[w.heap.size]?=some (.cells #[.int .i64 0,.int .i64 0,S []] 34 (0,0)):=(hb36.block _ hlw).trans hres;have r0:w6.cell? ⟨w.heap.size,0,none⟩=some (.int .i64 0):=cX;have r1:w6.cell? ⟨w.heap.size,1,none⟩=some (.int .i64 0):=cX;have r2:w6.cell? ⟨w.heap.size,2,none⟩=some (S []):=cX;have z0:=Lib.frozen_of_heap hres6 0;have z1:=Lib.frozen_of_heap hres6 1;have z2:=Lib.frozen_of_heap hres6 2;go_wp2;have y0:=dE (p:=⟨w.heap.size,2,none⟩) (u:=S (unhex q)) (dE (p:=⟨w.heap.size,1,none⟩) (u:= .int .i64 0) (eF (u:= .int .i64 4) r0) aa) aa;have y1:=dE (p:=⟨w.heap.size,2,none⟩) (u:=S (unhex q)) (eF (u:= .int .i64 0) (dE (p:=⟨w.heap.size,0,none⟩) (u:= .int .i64 4) r1 aa)) aa;have y2:=eF (u:=S (unhex q)) (dE (p:=⟨w.heap.size,1,none⟩) (u:= .int .i64 0) (dE (p:=⟨w.heap.size,0,none⟩) (u:= .int .i64 4) r2 aa) aa);refine bodyPost_ret (v:=V 4 0 (unhex q)) cR rfl ⟨qU HNO.o NUM.o du,(((((hb30.call hb5).call hb6)).set (Nat.le_refl _) _).set (Nat.le_refl _) _).set (Nat.le_refl _) _⟩
       ·have HH:=Lib.hid hh;clear hh;refine(b0w q aE _ HH.o).mono ?_;rintro e w6 ⟨rfl,hb6⟩;exact⟨rfl,mK HNO.o NUM.o du,(hb30.call hb5).call hb6⟩
   ·have hp':∀v,Lib.parseIntB 64 s≠ .ok v:=fun v h=>hp ⟨v,h⟩;have NUM:=Lib.hid (b2a hp');refine(a8z s hs hp' _ hGr).mono ?_;rintro e w3 ⟨x0,N,rfl,hb3⟩;clear hp hp';go_wp2_with fail;refine(sV s [120] _).mono ?_;rintro e w4 ⟨rfl,rfl⟩;have hG3:=hGr.bl hb3;have hb30:=hB.call hb3;cases hx:Lib.hasPrefix s [120]
    ·have HX:=Lib.hid hx;have htp:Lib.trimPrefix s [120]=s:=(by simp[Lib.trimPrefix,hx]);rw[htp];clear hx htp;go_wp2_with fail;cases hu:unq s with
     |none=>
      have HU:=Lib.hid hu;clear hu;refine(sO hs HU.o w3 _ hG3 ((Bl.refl w3).alloc _) an an).mono ?_;rintro e w5 ⟨rfl,hb5⟩;exact⟨rfl,mK HNO.o NUM.o eE,hb30.call hb5⟩
     |some q=>
      have HU:=Lib.hid hu;clear hu;refine(sN hs HU.o w3 _ hG3 ((Bl.refl w3).alloc _) an an).mono ?_;rintro e w5 ⟨rfl,hb5⟩;have hb35:=hb3.call hb5;have hres5:w5.heap[w.heap.size]?=some (.cells #[.int .i64 0,.int .i64 0,S []] 34 (0,0)):=(hb35.block _ hlw).trans hres;have r0:w5.cell? ⟨w.heap.size,0,none⟩=some (.int .i64 0):=cW;have r1:w5.cell? ⟨w.heap.size,1,none⟩=some (.int .i64 0):=cW;have r2:w5.cell? ⟨w.heap.size,2,none⟩=some (S []):=cW;have z0:=Lib.frozen_of_heap hres5 0;have z1:=Lib.frozen_of_heap hres5 1;have z2:=Lib.frozen_of_heap hres5 2;go_wp2;have y0:=dE (p:=⟨w.heap.size,2,none⟩) (u:=S q) (dE (p:=⟨w.heap.size,1,none⟩) (u:= .int .i64 0) (eF (u:= .int .i64 3) r0) aa) aa;have y1:=dE (p:=⟨w.heap.size,2,none⟩) (u:=S q) (eF (u:= .int .i64 0) (dE (p:=⟨w.heap.size,0,none⟩) (u:= .int .i64 3) r1 aa)) aa;have y2:=eF (u:=S q) (dE (p:=⟨w.heap.size,1,none⟩) (u:= .int .i64 0) (dE (p:=⟨w.heap.size,0,none⟩) (u:= .int .i64 3) r2 aa) aa);refine bodyPost_ret (v:=V 3 0 q) cR rfl ⟨qU HNO.o NUM.o eE,((((hb30.call hb5)).set (Nat.le_refl _) _).set (Nat.le_refl _) _).set (Nat.le_refl _) _⟩
    ·have HX:=Lib.hid hx;have htl:=jW s [120];generalize htp:Lib.trimPrefix s [120]=x at *;have HT:=Lib.hid htp;clear hx htp;go_wp2_with fail;cases hu:unq x with
     |none=>
      have HU:=Lib.hid hu;clear hu;refine(sO aE HU.o w3 _ hG3 ((Bl.refl w3).alloc _) an an).mono ?_;rintro e w5 ⟨rfl,hb5⟩;exact⟨rfl,mK HNO.o NUM.o (by unfold iD;rw[HX.o,HT.o];simp[HU.o]),hb30.call hb5⟩
     |some q=>
      have HU:=Lib.hid hu;have hql:=xI hu;clear hu;refine(sN aE HU.o w3 _ hG3 ((Bl.refl w3).alloc _) an an).mono ?_;rintro e w5 ⟨rfl,hb5⟩;go_wp2_with fail;by_cases hh:wS q
      ·have HH:=Lib.hid hh;clear hh;refine(b0u q aE _ HH.o.1 HH.o.2).mono ?_;rintro e w6 ⟨rfl,hb6⟩;have hb36:=(hb3.call hb5).call hb6;have hres6:w6.heap[w.heap.size]?=some (.cells #[.int .i64 0,.int .i64 0,S []] 34 (0,0)):=(hb36.block _ hlw).trans hres;have r0:w6.cell? ⟨w.heap.size,0,none⟩=some (.int .i64 0):=cX;have r1:w6.cell? ⟨w.heap.size,1,none⟩=some (.int .i64 0):=cX;have r2:w6.cell? ⟨w.heap.size,2,none⟩=some (S []):=cX;have z0:=Lib.frozen_of_heap hres6 0;have z1:=Lib.frozen_of_heap hres6 1;have z2:=Lib.frozen_of_heap hres6 2;go_wp2;have y0:=dE (p:=⟨w.heap.size,2,none⟩) (u:=S (unhex q)) (dE (p:=⟨w.heap.size,1,none⟩) (u:= .int .i64 0) (eF (u:= .int .i64 4) r0) aa) aa;have y1:=dE (p:=⟨w.heap.size,2,none⟩) (u:=S (unhex q)) (eF (u:= .int .i64 0) (dE (p:=⟨w.heap.size,0,none⟩) (u:= .int .i64 4) r1 aa)) aa;have y2:=eF (u:=S (unhex q)) (dE (p:=⟨w.heap.size,1,none⟩) (u:= .int .i64 0) (dE (p:=⟨w.heap.size,0,none⟩) (u:= .int .i64 4) r2 aa) aa);refine bodyPost_ret (v:=V 4 0 (unhex q)) cR rfl ⟨qU HNO.o NUM.o du,(((((hb30.call hb5).call hb6)).set (Nat.le_refl _) _).set (Nat.le_refl _) _).set (Nat.le_refl _) _⟩
      ·have HH:=Lib.hid hh;clear hh;refine(b0w q aE _ HH.o).mono ?_;rintro e w6 ⟨rfl,hb6⟩;exact⟨rfl,mK HNO.o NUM.o du,(hb30.call hb5).call hb6⟩
end
section
def dF(s:List UInt8):Int×Int×List UInt8×Int:=match mW s with
 |some (k,n,l)=>if chk k n l=0 then(k,n,l,0) else(0,0,[],chk k n l)
 |none=>(0,0,[],110)
theorem a2r(b:Nat)(x y z:Value)(w:World)(h:w.heap[b]?=some (.cells #[x,y,z] 34 (0,0))):eg 241 #[.pointer (some ⟨b,0,none⟩)] w fun e w'=>e= .returned (.tuple #[])/\w'=((w.setCell ⟨b,0,none⟩ (.int .i64 0)).setCell ⟨b,1,none⟩ (.int .i64 0)).setCell ⟨b,2,none⟩ (.string ⟨#[]⟩):=by
 have r0:w.cell? ⟨b,0,none⟩=some x:=(by rw[Lib.cell_of_heap h];rfl);have r1:w.cell? ⟨b,1,none⟩=some y:=(by rw[Lib.cell_of_heap h];rfl);have r2:w.cell? ⟨b,2,none⟩=some z:=(by rw[Lib.cell_of_heap h];rfl);have z0:=Lib.frozen_of_heap h 0;have z1:=Lib.frozen_of_heap h 1;have z2:=Lib.frozen_of_heap h 2;go_enter func241,ntmps241;go_wp2;go_end0;exact⟨rfl,rfl⟩
theorem wV(args:Array Value)(w:World):(callFunc 241 args).run prog w= .ok (.enter 241 args) w:=by
 simp[go_sem]
theorem a5i{s:List UInt8}{k n:Int}{l:List UInt8}(hs:s.length<=10000)(h:mW s=some (k,n,l))(w:World)(hG:nD w):eg 242 #[S s] w fun e w'=>e= .returned (V k n l)/\Bl w w':=
 (a9t s hs w hG).mono fun e w' ⟨he,hb⟩=>⟨by rw[he];simp[pX,h],hb⟩
theorem b5m{s:List UInt8}(hs:s.length<=10000)(h:mW s=none)(w:World)(hG:nD w):eg 242 #[S s] w fun e w'=>e= .panicked [{v:= .iface 47 (.int .i64 110),recovered:=false}]/\Bl w w':=
 (a9t s hs w hG).mono fun e w' ⟨he,hb⟩=>⟨by rw[he];simp[pX,h],hb⟩
theorem jY(w:World)(b:Nat)(x y z x' y' z':Value)(t:TypeId)(h:w.heap[b]?=some (.cells #[x,y,z] t (0,0))):
  (((w.setCell ⟨b,0,none⟩ x').setCell ⟨b,1,none⟩ y').setCell ⟨b,2,none⟩ z').heap[b]?=some (.cells #[x',y',z'] t (0,0)):=by
 simp[World.setCell,Array.getElem?_modify,h]
theorem aM(w:World)(p:Addr)(v:Value)(k:Nat)(h:k≠p.block):(w.setCell p v).heap[k]?=w.heap[k]?:=Below.heap_setCell _ _ _ _ h
theorem b3h(s:List UInt8)(hs:s.length<=10000)(h:mW s=none)(w:World)(hG:nD w):
  eg 187 #[S s] w fun e w'=>e= .returned (.tuple #[V 0 0 [],.int .i64 110])/\Bl w w':=by
 have H:=Lib.hid h;clear h;have hmf:∀(fn:Fn) (first cap:Array Value) (w:World),(Instr.makeFunc fn first cap).run prog w= .ok (.func fn first cap) w:=fun _ _ _ _=>rfl
 go_enter_defers func187,ntmps187
 go_wp2_with fail;refine(b5m hs H.o _ ((hG.alloc _).alloc _)).mono ?_;rintro e w1 ⟨rfl,hb⟩;have hb1:Bl w w1:=(((Bl.refl w).alloc _).alloc _).call hb;have hA:w1.heap[w.heap.size]?=some (.cells #[.int .i64 0,.int .i64 0,.string ⟨#[]⟩] 34 (0,0)):=by
  rw[hb.block _ ak,aW _ _ aa,aN]
 have hE:w1.heap[w.heap.size+1]?=some (.cells #[.int .i64 0] 47 (0,0)):=by
  rw[hb.block _ aa,aV _ _ aa]
 have c4:w1.cell? ⟨w.heap.size+1,0,none⟩=some (.int .i64 0):=(by rw[Lib.cell_of_heap hE];rfl);have f4:=Lib.frozen_of_heap hE 0;go_wp2_with fail;refine leaves_cons (f:=240) (args:= #[.pointer (some ⟨w.heap.size+1,0,none⟩),.func (.func 241) #[] #[.pointer (some ⟨w.heap.size,0,none⟩)]]) aa an ?_;have hA':(w1.setCell ⟨w.heap.size+1,0,none⟩ (.int .i64 110)).heap[w.heap.size]?=some (.cells #[.int .i64 0,.int .i64 0,.string ⟨#[]⟩] 34 (0,0)):=(aM _ _ _ _ aa).trans hA;have hL:=a2r w.heap.size _ _ _ (w1.setCell ⟨w.heap.size+1,0,none⟩ (.int .i64 110)) hA';have hP:=qX ⟨w.heap.size+1,0,none⟩ 0 110 241 #[] #[.pointer (some ⟨w.heap.size,0,none⟩)] #[.pointer (some ⟨w.heap.size,0,none⟩)] aa w1 _ c4 f4 wV hL;refine hP.mono ?_;rintro e u' w'' ⟨rfl,rfl,rfl⟩;have hV:=jY _ _ _ _ _ (.int .i64 0) (.int .i64 0) (.string ⟨#[]⟩) _ hA';have hE1:(w1.setCell ⟨w.heap.size+1,0,none⟩ (.int .i64 110)).cell? ⟨w.heap.size+1,0,none⟩=some (.int .i64 110):=eF c4;have q3:=dM (p:=⟨w.heap.size,2,none⟩) (u:= .string ⟨#[]⟩) (dM (p:=⟨w.heap.size,1,none⟩) (u:= .int .i64 0) (dM (p:=⟨w.heap.size,0,none⟩) (u:= .int .i64 0) hE1 aa) aa) aa;have hbW:=(((hb1.set (p:=⟨w.heap.size+1,0,none⟩) aa (.int .i64 110)).set (p:=⟨w.heap.size,0,none⟩) aa (.int .i64 0)).set (p:=⟨w.heap.size,1,none⟩) aa (.int .i64 0)).set (p:=⟨w.heap.size,2,none⟩) aa (.string ⟨#[]⟩);clear hP hL;generalize (((w1.setCell ⟨w.heap.size+1,0,none⟩ (.int .i64 110)).setCell ⟨w.heap.size,0,none⟩ (.int .i64 0)).setCell ⟨w.heap.size,1,none⟩ (.int .i64 0)).setCell ⟨w.heap.size,2,none⟩ (.string ⟨#[]⟩)=W at *;have q0:W.cell? ⟨w.heap.size,0,none⟩=some (.int .i64 0):=bm;have q1:W.cell? ⟨w.heap.size,1,none⟩=some (.int .i64 0):=bm;have q2:W.cell? ⟨w.heap.size,2,none⟩=some (S []):=bm;refine⟨.tuple #[V 0 0 [],.int .i64 110],?_,rfl,hbW⟩;simp[results,results187,go_sem,q0,q1,q2,q3]
theorem b3g(s:List UInt8)(hs:s.length<=10000)(k n:Int)(l:List UInt8)(h:mW s=some (k,n,l))(hc:chk k n l=0)(w:World)(hG:nD w):
  eg 187 #[S s] w fun e w'=>e= .returned (.tuple #[V k n l,.int .i64 0])/\Bl w w':=by
 have H:=Lib.hid h;have HC:=Lib.hid hc;clear h hc;have hmf:∀(fn:Fn) (first cap:Array Value) (w:World),(Instr.makeFunc fn first cap).run prog w= .ok (.func fn first cap) w:=fun _ _ _ _=>rfl
 go_enter_defers func187,ntmps187
 go_wp2_with fail;refine(a5i hs H.o _ ((hG.alloc _).alloc _)).mono ?_;rintro e w1 ⟨rfl,hb⟩;have hb1:Bl w w1:=(((Bl.refl w).alloc _).alloc _).call hb;have hA:w1.heap[w.heap.size]?=some (.cells #[.int .i64 0,.int .i64 0,.string ⟨#[]⟩] 34 (0,0)):=by
  rw[hb.block _ ak,aW _ _ aa,aN]
 have hE:w1.heap[w.heap.size+1]?=some (.cells #[.int .i64 0] 47 (0,0)):=by
  rw[hb.block _ aa,aV _ _ aa]
 have hV1:=jY _ _ _ _ _ (.int .i64 k) (.int .i64 n) (.string ⟨l.toArray⟩) _ hA;have hE1:=((aM ((w1.setCell ⟨w.heap.size,0,none⟩ (.int .i64 k)).setCell ⟨w.heap.size,1,none⟩ (.int .i64 n)) ⟨w.heap.size,2,none⟩ (.string ⟨l.toArray⟩) (w.heap.size+1) aa).trans ((aM (w1.setCell ⟨w.heap.size,0,none⟩ (.int .i64 k)) ⟨w.heap.size,1,none⟩ (.int .i64 n) (w.heap.size+1) aa).trans (aM w1 ⟨w.heap.size,0,none⟩ (.int .i64 k) (w.heap.size+1) aa))).trans hE;have hb2:=((hb1.set (p:=⟨w.heap.size,0,none⟩) aa (.int .i64 k)).set (p:=⟨w.heap.size,1,none⟩) aa (.int .i64 n)).set (p:=⟨w.heap.size,2,none⟩) aa (.string ⟨l.toArray⟩);have r0:w1.cell? ⟨w.heap.size,0,none⟩=some (.int .i64 0):=cY;have r1:w1.cell? ⟨w.heap.size,1,none⟩=some (.int .i64 0):=cY;have r2:w1.cell? ⟨w.heap.size,2,none⟩=some (.string ⟨#[]⟩):=cY;have z0:=Lib.frozen_of_heap hA 0;have z1:=Lib.frozen_of_heap hA 1;have z2:=Lib.frozen_of_heap hA 2;go_wp2_with fail;clear r0 r1 r2 z0 z1 z2;generalize ((w1.setCell ⟨w.heap.size,0,none⟩ (.int .i64 k)).setCell ⟨w.heap.size,1,none⟩ (.int .i64 n)).setCell ⟨w.heap.size,2,none⟩ (.string ⟨l.toArray⟩)=W2 at *;clear hA hE hb;have hlA:w.heap.size<W2.heap.size:=(Array.getElem?_eq_some_iff.1 hV1).1;have hlE:w.heap.size+1<W2.heap.size:=(Array.getElem?_eq_some_iff.1 hE1).1;refine(a3g _ HC.o).mono ?_;rintro e w3 ⟨rfl,hb3⟩;have hV3:=(hb3.block _ hlA).trans hV1;have hE3:=(hb3.block _ hlE).trans hE1;have hbw3:=hb2.call hb3;have r0:w3.cell? ⟨w.heap.size,0,none⟩=some (.int .i64 k):=(by rw[Lib.cell_of_heap hV3];rfl);have r1:w3.cell? ⟨w.heap.size,1,none⟩=some (.int .i64 n):=(by rw[Lib.cell_of_heap hV3];rfl);have r2:w3.cell? ⟨w.heap.size,2,none⟩=some (.string ⟨l.toArray⟩):=(by rw[Lib.cell_of_heap hV3];rfl);have r3:w3.cell? ⟨w.heap.size+1,0,none⟩=some (.int .i64 0):=(by rw[Lib.cell_of_heap hE3];rfl);have z0:=Lib.frozen_of_heap hV3 0;have z1:=Lib.frozen_of_heap hV3 1;have z2:=Lib.frozen_of_heap hV3 2;have z3:=Lib.frozen_of_heap hE3 0;clear hb2 hb1 hV1 hE1;go_wp2_with fail;refine leaves_cons (f:=240) (args:= #[.pointer (some ⟨w.heap.size+1,0,none⟩),.func (.func 241) #[] #[.pointer (some ⟨w.heap.size,0,none⟩)]]) aa an ?_;refine(vZ _ _ _).mono ?_;rintro e u' w'' ⟨rfl,rfl,rfl⟩;have hV:=(aM _ ⟨w.heap.size+1,0,none⟩ (.int .i64 0) w.heap.size aa).trans (jY _ _ _ _ _ (.int .i64 k) (.int .i64 n) (.string ⟨l.toArray⟩) _ hV3);have q3:=eF (u:= .int .i64 0) (dM (p:=⟨w.heap.size,2,none⟩) (u:= .string ⟨l.toArray⟩) (dM (p:=⟨w.heap.size,1,none⟩) (u:= .int .i64 n) (dM (p:=⟨w.heap.size,0,none⟩) (u:= .int .i64 k) r3 aa) aa) aa);have hbW:=(((hbw3.set (p:=⟨w.heap.size,0,none⟩) aa (.int .i64 k)).set (p:=⟨w.heap.size,1,none⟩) aa (.int .i64 n)).set (p:=⟨w.heap.size,2,none⟩) aa (.string ⟨l.toArray⟩)).set (p:=⟨w.heap.size+1,0,none⟩) aa (.int .i64 0);generalize (((w3.setCell ⟨w.heap.size,0,none⟩ (.int .i64 k)).setCell ⟨w.heap.size,1,none⟩ (.int .i64 n)).setCell ⟨w.heap.size,2,none⟩ (.string ⟨l.toArray⟩)).setCell ⟨w.heap.size+1,0,none⟩ (.int .i64 0)=W at *;have q0:W.cell? ⟨w.heap.size,0,none⟩=some (.int .i64 k):=bm;have q1:W.cell? ⟨w.heap.size,1,none⟩=some (.int .i64 n):=bm;have q2:W.cell? ⟨w.heap.size,2,none⟩=some (S l):=bm;refine⟨.tuple #[V k n l,.int .i64 0],?_,rfl,hbW⟩;simp[results,results187,go_sem,q0,q1,q2,q3]
theorem b7w(s:List UInt8)(hs:s.length<=10000)(k n:Int)(l:List UInt8)(h:mW s=some (k,n,l))(hc:¬chk k n l=0)(w:World)(hG:nD w):
  eg 187 #[S s] w fun e w'=>e= .returned (.tuple #[V 0 0 [],.int .i64 (chk k n l)])/\Bl w w':=by
 have H:=Lib.hid h;have HC:=Lib.hid hc;clear h hc;have hmf:∀(fn:Fn) (first cap:Array Value) (w:World),(Instr.makeFunc fn first cap).run prog w= .ok (.func fn first cap) w:=fun _ _ _ _=>rfl
 go_enter_defers func187,ntmps187
 go_wp2_with fail;refine(a5i hs H.o _ ((hG.alloc _).alloc _)).mono ?_;rintro e w1 ⟨rfl,hb⟩;have hb1:Bl w w1:=(((Bl.refl w).alloc _).alloc _).call hb;have hA:w1.heap[w.heap.size]?=some (.cells #[.int .i64 0,.int .i64 0,.string ⟨#[]⟩] 34 (0,0)):=by
  rw[hb.block _ ak,aW _ _ aa,aN]
 have hE:w1.heap[w.heap.size+1]?=some (.cells #[.int .i64 0] 47 (0,0)):=by
  rw[hb.block _ aa,aV _ _ aa]
 have hV1:=jY _ _ _ _ _ (.int .i64 k) (.int .i64 n) (.string ⟨l.toArray⟩) _ hA;have hE1:=((aM ((w1.setCell ⟨w.heap.size,0,none⟩ (.int .i64 k)).setCell ⟨w.heap.size,1,none⟩ (.int .i64 n)) ⟨w.heap.size,2,none⟩ (.string ⟨l.toArray⟩) (w.heap.size+1) aa).trans ((aM (w1.setCell ⟨w.heap.size,0,none⟩ (.int .i64 k)) ⟨w.heap.size,1,none⟩ (.int .i64 n) (w.heap.size+1) aa).trans (aM w1 ⟨w.heap.size,0,none⟩ (.int .i64 k) (w.heap.size+1) aa))).trans hE;have hb2:=((hb1.set (p:=⟨w.heap.size,0,none⟩) aa (.int .i64 k)).set (p:=⟨w.heap.size,1,none⟩) aa (.int .i64 n)).set (p:=⟨w.heap.size,2,none⟩) aa (.string ⟨l.toArray⟩);have r0:w1.cell? ⟨w.heap.size,0,none⟩=some (.int .i64 0):=cY;have r1:w1.cell? ⟨w.heap.size,1,none⟩=some (.int .i64 0):=cY;have r2:w1.cell? ⟨w.heap.size,2,none⟩=some (.string ⟨#[]⟩):=cY;have z0:=Lib.frozen_of_heap hA 0;have z1:=Lib.frozen_of_heap hA 1;have z2:=Lib.frozen_of_heap hA 2;go_wp2_with fail;clear r0 r1 r2 z0 z1 z2;generalize ((w1.setCell ⟨w.heap.size,0,none⟩ (.int .i64 k)).setCell ⟨w.heap.size,1,none⟩ (.int .i64 n)).setCell ⟨w.heap.size,2,none⟩ (.string ⟨l.toArray⟩)=W2 at *;clear hA hE hb;have hlA:w.heap.size<W2.heap.size:=(Array.getElem?_eq_some_iff.1 hV1).1;have hlE:w.heap.size+1<W2.heap.size:=(Array.getElem?_eq_some_iff.1 hE1).1;refine(a3h _ HC.o).mono ?_;rintro e w3 ⟨rfl,hb3⟩;have hV3:=(hb3.block _ hlA).trans hV1;have hE3:=(hb3.block _ hlE).trans hE1;have hbw3:=hb2.call hb3;have c4:w3.cell? ⟨w.heap.size+1,0,none⟩=some (.int .i64 0):=(by rw[Lib.cell_of_heap hE3];rfl);have f4:=Lib.frozen_of_heap hE3 0;clear hb2 hb1 hV1 hE1;go_wp2_with fail;refine leaves_cons (f:=240) (args:= #[.pointer (some ⟨w.heap.size+1,0,none⟩),.func (.func 241) #[] #[.pointer (some ⟨w.heap.size,0,none⟩)]]) aa an ?_;generalize chk k n l=c at *;have hA':(w3.setCell ⟨w.heap.size+1,0,none⟩ (.int .i64 c)).heap[w.heap.size]?=some (.cells #[.int .i64 k,.int .i64 n,.string ⟨l.toArray⟩] 34 (0,0)):=(aM _ _ _ _ aa).trans hV3;have hL:=a2r w.heap.size _ _ _ (w3.setCell ⟨w.heap.size+1,0,none⟩ (.int .i64 c)) hA';have hP:=qX ⟨w.heap.size+1,0,none⟩ 0 c 241 #[] #[.pointer (some ⟨w.heap.size,0,none⟩)] #[.pointer (some ⟨w.heap.size,0,none⟩)] aa w3 _ c4 f4 wV hL;refine hP.mono ?_;rintro e u' w'' ⟨rfl,rfl,rfl⟩;have hV:=jY _ _ _ _ _ (.int .i64 0) (.int .i64 0) (.string ⟨#[]⟩) _ hA';have hE2:(w3.setCell ⟨w.heap.size+1,0,none⟩ (.int .i64 c)).cell? ⟨w.heap.size+1,0,none⟩=some (.int .i64 c):=eF c4;have q3:=dM (p:=⟨w.heap.size,2,none⟩) (u:= .string ⟨#[]⟩) (dM (p:=⟨w.heap.size,1,none⟩) (u:= .int .i64 0) (dM (p:=⟨w.heap.size,0,none⟩) (u:= .int .i64 0) hE2 aa) aa) aa;have hbW:=(((hbw3.set (p:=⟨w.heap.size+1,0,none⟩) aa (.int .i64 c)).set (p:=⟨w.heap.size,0,none⟩) aa (.int .i64 0)).set (p:=⟨w.heap.size,1,none⟩) aa (.int .i64 0)).set (p:=⟨w.heap.size,2,none⟩) aa (.string ⟨#[]⟩);clear hP hL;generalize (((w3.setCell ⟨w.heap.size+1,0,none⟩ (.int .i64 c)).setCell ⟨w.heap.size,0,none⟩ (.int .i64 0)).setCell ⟨w.heap.size,1,none⟩ (.int .i64 0)).setCell ⟨w.heap.size,2,none⟩ (.string ⟨#[]⟩)=W at *;have q0:W.cell? ⟨w.heap.size,0,none⟩=some (.int .i64 0):=bm;have q1:W.cell? ⟨w.heap.size,1,none⟩=some (.int .i64 0):=bm;have q2:W.cell? ⟨w.heap.size,2,none⟩=some (S []):=bm;refine⟨.tuple #[V 0 0 [],.int .i64 c],?_,rfl,hbW⟩;simp[results,results187,go_sem,q0,q1,q2,q3]
theorem b7x(s:List UInt8)(hs:s.length<=10000)(w:World)(hG:nD w):
  eg 187 #[S s] w fun e w'=>e= .returned (.tuple #[V (dF s).1 (dF s).2.1 (dF s).2.2.1,.int .i64 (dF s).2.2.2])/\Bl w w':=by
 cases h:mW s with
 |none=>
  have e:dF s=(0,0,[],110):=(by simp[dF,h]);rw[e];exact b3h s hs h w hG
 |some x=>
  obtain⟨k,n,l⟩:=x;by_cases hc:chk k n l=0
  ·have e:dF s=(k,n,l,0):=by simp[dF,h,hc]
   rw[e];exact b3g s hs k n l h hc w hG
  ·have e:dF s=(0,0,[],chk k n l):=by simp[dF,h,hc]
   rw[e];exact b7w s hs k n l h hc w hG
end
end Go.Proofs.YtohlomdapelgeaaGreatDoor
