import Derived.Test.YtjigeffmmcmlnaaGreatDoorX20
import Derived.Test.YtjigeffmmcmlnaaGreatDoorCards
import Derived.Test.YtjigeffmmcmlnaaGreatDoorTie
import Derived.OpenShut
import Derived.Deep.DeepHandedRow
import Derived.Lib.LaidTab
set_option linter.all false
set_option linter.unnecessarySimpa false
set_option linter.deprecated false
set_option linter.unusedVariables false
set_option linter.unusedSimpArgs false
set_option linter.unusedSectionVars false
namespace Go.Proofs.YtjigeffmmcmlnaaGreatDoor
open Go Go.an Go.RowKit Go.ChangeShapes Go.WideShapes
theorem own:ownKnob Tryz.prog.godebug=none:=by kernel_rfl
theorem laidOut:laidOutB Tryz.prog=true:=by kernel_rfl
theorem gh {H:Type} {en:TypeId×Value→H} {P:Program} {w:World} {base:Nat} {spare:Nat→Bool} {held:Bool} {n:Nat} {cs:List Value} {xs:List (DataW H×List MemPlace)} {fs:Array Field} (hl:xs.length=fs.size)
  (hf:∀ (i:Nat) (f:Field),fs[i]?=some f→DataW.trod en P w base spare held n f.type ((cs.drop f.offset).take (P.cellsOf f.type))=xs[i]?) (i:Nat) (f:Field) (hi:fs[i]?=some f) {s:Nat} (hs:P.cellsOf f.type=s) :
  ∃ x,xs[i]?=some x∧DataW.trod en P w base spare held n f.type ((cs.drop f.offset).take s)=some x:=by
 have h:=hf i f hi
 rw[hs] at h
 have:i < xs.length:=by rw[hl];exact(Array.getElem?_eq_some_iff.1 hi).1
 have hx:=List.getElem?_eq_getElem this
 exact⟨xs[i],hx,h.trans hx⟩
def agb (H:Type) (d:DataW H) (s:Score):Prop:=∃ ds d1 d2 d3,d = .agg ds∧(d1∈ds∧zr (fun _ _ (_:aT)=>True) H d1 s.bars)∧(d2∈ds∧zr (fun _ _ (_:Part)=>True) H d2 s.parts)∧(d3∈ds∧zr (fun _ _ (_:ae)=>True) H d3 s.notes)
theorem oo:qH Tryz.prog 3 Int fun _ _ n=> -9223372036854775808≤n∧n≤9223372036854775807:=axx Tryz.underlying3
theorem aa2:qH Tryz.prog 46 Rat fun _ _ _=>True:=by
 intro H en w base spare held fuel cs x h
 obtain⟨xs,n,_,hx,hl,cw,hf⟩:=DataW.trod_struct Tryz.underlying46 h
 obtain⟨x0,e0,h0⟩:=gh cw hf 0 _ rfl (s:=1) (by kernel_rfl)
 obtain⟨x1,e1,h1⟩:=gh cw hf 1 _ rfl (s:=1) (by kernel_rfl)
 obtain⟨a0,g0,k0⟩:=oo _ _ _ _ _ _ _ _ _ h0
 obtain⟨a1,g1,k1⟩:=oo _ _ _ _ _ _ _ _ _ h1
 have hn:cs.length=2:=hl.trans (by kernel_rfl)
 exact⟨⟨a0,a1⟩,trivial,(gg k0 (gg k1 (Cr _ hn)))⟩
theorem axv:qH Tryz.prog 69 Interval fun _ _ _=>True:=by
 intro H en w base spare held fuel cs x h
 obtain⟨xs,n,_,hx,hl,cw,hf⟩:=DataW.trod_struct Tryz.underlying69 h
 obtain⟨x0,e0,h0⟩:=gh cw hf 0 _ rfl (s:=1) (by kernel_rfl)
 obtain⟨x1,e1,h1⟩:=gh cw hf 1 _ rfl (s:=1) (by kernel_rfl)
 obtain⟨a0,g0,k0⟩:=oo _ _ _ _ _ _ _ _ _ h0
 obtain⟨a1,g1,k1⟩:=oo _ _ _ _ _ _ _ _ _ h1
 have hn:cs.length=2:=hl.trans (by kernel_rfl)
 exact⟨⟨a0,a1⟩,trivial,(gg k0 (gg k1 (Cr _ hn)))⟩
theorem aa3:qH Tryz.prog 48 az fun _ _ _=>True:=by
 intro H en w base spare held fuel cs x h
 obtain⟨xs,n,_,hx,hl,cw,hf⟩:=DataW.trod_struct Tryz.underlying48 h
 obtain⟨x0,e0,h0⟩:=gh cw hf 0 _ rfl (s:=1) (by kernel_rfl)
 obtain⟨x1,e1,h1⟩:=gh cw hf 1 _ rfl (s:=1) (by kernel_rfl)
 obtain⟨x2,e2,h2⟩:=gh cw hf 2 _ rfl (s:=1) (by kernel_rfl)
 obtain⟨a0,g0,k0⟩:=oo _ _ _ _ _ _ _ _ _ h0
 obtain⟨a1,g1,k1⟩:=oo _ _ _ _ _ _ _ _ _ h1
 obtain⟨a2,g2,k2⟩:=oo _ _ _ _ _ _ _ _ _ h2
 have hn:cs.length=3:=hl.trans (by kernel_rfl)
 exact⟨⟨a0,a1,a2⟩,trivial,(gg k0 (gg k1 (gg k2 (Cr _ hn))))⟩
theorem axu:qH Tryz.prog 67 aT fun _ _ _=>True:=by
 intro H en w base spare held fuel cs x h
 obtain⟨xs,n,_,hx,hl,cw,hf⟩:=DataW.trod_struct Tryz.underlying67 h
 obtain⟨x0,e0,h0⟩:=gh cw hf 0 _ rfl (s:=1) (by kernel_rfl)
 obtain⟨x1,e1,h1⟩:=gh cw hf 1 _ rfl (s:=2) (by kernel_rfl)
 obtain⟨x2,e2,h2⟩:=gh cw hf 2 _ rfl (s:=1) (by kernel_rfl)
 obtain⟨a0,g0,k0⟩:=oo _ _ _ _ _ _ _ _ _ h0
 obtain⟨a1,g1,k1⟩:=aa2 _ _ _ _ _ _ _ _ _ h1
 obtain⟨a2,g2,k2⟩:=oo _ _ _ _ _ _ _ _ _ h2
 have hn:cs.length=4:=hl.trans (by kernel_rfl)
 exact⟨⟨a0,a1,a2⟩,trivial,(gg k0 (gg k1 (gg k2 (Cr _ hn))))⟩
theorem axw:qH Tryz.prog 71 Part fun _ _ _=>True:=by
 intro H en w base spare held fuel cs x h
 obtain⟨xs,n,_,hx,hl,cw,hf⟩:=DataW.trod_struct Tryz.underlying71 h
 obtain⟨x0,e0,h0⟩:=gh cw hf 0 _ rfl (s:=1) (by kernel_rfl)
 obtain⟨x1,e1,h1⟩:=gh cw hf 1 _ rfl (s:=1) (by kernel_rfl)
 obtain⟨x2,e2,h2⟩:=gh cw hf 2 _ rfl (s:=1) (by kernel_rfl)
 obtain⟨x3,e3,h3⟩:=gh cw hf 3 _ rfl (s:=1) (by kernel_rfl)
 obtain⟨x4,e4,h4⟩:=gh cw hf 4 _ rfl (s:=1) (by kernel_rfl)
 obtain⟨x5,e5,h5⟩:=gh cw hf 5 _ rfl (s:=2) (by kernel_rfl)
 obtain⟨x6,e6,h6⟩:=gh cw hf 6 _ rfl (s:=3) (by kernel_rfl)
 obtain⟨x7,e7,h7⟩:=gh cw hf 7 _ rfl (s:=3) (by kernel_rfl)
 obtain⟨a0,g0,k0⟩:=oo _ _ _ _ _ _ _ _ _ h0
 obtain⟨a1,g1,k1⟩:=oo _ _ _ _ _ _ _ _ _ h1
 obtain⟨a2,g2,k2⟩:=oo _ _ _ _ _ _ _ _ _ h2
 obtain⟨a3,g3,k3⟩:=oo _ _ _ _ _ _ _ _ _ h3
 obtain⟨a4,g4,k4⟩:=oo _ _ _ _ _ _ _ _ _ h4
 obtain⟨a5,g5,k5⟩:=axv _ _ _ _ _ _ _ _ _ h5
 obtain⟨a6,g6,k6⟩:=aa3 _ _ _ _ _ _ _ _ _ h6
 obtain⟨a7,g7,k7⟩:=aa3 _ _ _ _ _ _ _ _ _ h7
 have hn:cs.length=13:=hl.trans (by kernel_rfl)
 exact⟨⟨a0,a1,a2,a3,a4,a5,a6,a7⟩,trivial,(gg k0 (gg k1 (gg k2 (gg k3 (gg k4 (gg k5 (gg k6 (gg k7 (Cr _ hn)))))))))⟩
theorem akb:qH Tryz.prog 50 ae fun _ _ _=>True:=by
 intro H en w base spare held fuel cs x h
 obtain⟨xs,n,_,hx,hl,cw,hf⟩:=DataW.trod_struct Tryz.underlying50 h
 obtain⟨x0,e0,h0⟩:=gh cw hf 0 _ rfl (s:=1) (by kernel_rfl)
 obtain⟨x1,e1,h1⟩:=gh cw hf 1 _ rfl (s:=1) (by kernel_rfl)
 obtain⟨x2,e2,h2⟩:=gh cw hf 2 _ rfl (s:=1) (by kernel_rfl)
 obtain⟨x3,e3,h3⟩:=gh cw hf 3 _ rfl (s:=1) (by kernel_rfl)
 obtain⟨x4,e4,h4⟩:=gh cw hf 4 _ rfl (s:=1) (by kernel_rfl)
 obtain⟨x5,e5,h5⟩:=gh cw hf 5 _ rfl (s:=2) (by kernel_rfl)
 obtain⟨x6,e6,h6⟩:=gh cw hf 6 _ rfl (s:=2) (by kernel_rfl)
 obtain⟨x7,e7,h7⟩:=gh cw hf 7 _ rfl (s:=3) (by kernel_rfl)
 obtain⟨a0,g0,k0⟩:=oo _ _ _ _ _ _ _ _ _ h0
 obtain⟨a1,g1,k1⟩:=oo _ _ _ _ _ _ _ _ _ h1
 obtain⟨a2,g2,k2⟩:=oo _ _ _ _ _ _ _ _ _ h2
 obtain⟨a3,g3,k3⟩:=oo _ _ _ _ _ _ _ _ _ h3
 obtain⟨a4,g4,k4⟩:=oo _ _ _ _ _ _ _ _ _ h4
 obtain⟨a5,g5,k5⟩:=aa2 _ _ _ _ _ _ _ _ _ h5
 obtain⟨a6,g6,k6⟩:=aa2 _ _ _ _ _ _ _ _ _ h6
 obtain⟨a7,g7,k7⟩:=aa3 _ _ _ _ _ _ _ _ _ h7
 have hn:cs.length=12:=hl.trans (by kernel_rfl)
 exact⟨⟨a0,a1,a2,a3,a4,a5,a6,a7⟩,trivial,(gg k0 (gg k1 (gg k2 (gg k3 (gg k4 (gg k5 (gg k6 (gg k7 (Cr _ hn)))))))))⟩
theorem SX:qH Tryz.prog 52 aa fun _ _ _=>True:=by
 intro H en w base spare held fuel cs x h
 obtain⟨xs,n,_,hx,hl,cw,hf⟩:=DataW.trod_struct Tryz.underlying52 h
 obtain⟨x0,e0,h0⟩:=gh cw hf 0 _ rfl (s:=1) (by kernel_rfl)
 obtain⟨x1,e1,h1⟩:=gh cw hf 1 _ rfl (s:=1) (by kernel_rfl)
 obtain⟨x2,e2,h2⟩:=gh cw hf 2 _ rfl (s:=1) (by kernel_rfl)
 obtain⟨x3,e3,h3⟩:=gh cw hf 3 _ rfl (s:=12) (by kernel_rfl)
 obtain⟨a0,g0,k0⟩:=oo _ _ _ _ _ _ _ _ _ h0
 obtain⟨a1,g1,k1⟩:=oo _ _ _ _ _ _ _ _ _ h1
 obtain⟨a2,g2,k2⟩:=oo _ _ _ _ _ _ _ _ _ h2
 obtain⟨a3,g3,k3⟩:=akb _ _ _ _ _ _ _ _ _ h3
 have hn:cs.length=15:=hl.trans (by kernel_rfl)
 exact⟨⟨a0,a1,a2,a3⟩,trivial,(gg k0 (gg k1 (gg k2 (gg k3 (Cr _ hn)))))⟩
theorem axr:qH Tryz.prog 22 (List aT) (zr (fun _ _ _=>True)):=SY Tryz.underlying22 (by kernel_rfl) (by rw[show Tryz.prog.cellsOf 67=4 by kernel_rfl];omega) axu
theorem axs:qH Tryz.prog 23 (List Part) (zr (fun _ _ _=>True)):=SY Tryz.underlying23 (by kernel_rfl) (by rw[show Tryz.prog.cellsOf 71=13 by kernel_rfl];omega) axw
theorem axt:qH Tryz.prog 24 (List ae) (zr (fun _ _ _=>True)):=SY Tryz.underlying24 (by kernel_rfl) (by rw[show Tryz.prog.cellsOf 50=12 by kernel_rfl];omega) akb
theorem Dd:qH Tryz.prog 27 (List aa) (zr (fun _ _ _=>True)):=SY Tryz.underlying27 (by kernel_rfl) (by rw[show Tryz.prog.cellsOf 52=15 by kernel_rfl];omega) SX
theorem SV:qH Tryz.prog 26 Score agb:=by
 intro H en w base spare held fuel cs x h
 obtain⟨xs,n,_,hx,hl,cw,hf⟩:=DataW.trod_struct Tryz.underlying26 h
 obtain⟨x0,e0,h0⟩:=gh cw hf 0 _ rfl (s:=1) (by kernel_rfl)
 obtain⟨x1,e1,h1⟩:=gh cw hf 1 _ rfl (s:=1) (by kernel_rfl)
 obtain⟨x2,e2,h2⟩:=gh cw hf 2 _ rfl (s:=1) (by kernel_rfl)
 obtain⟨x3,e3,h3⟩:=gh cw hf 3 _ rfl (s:=1) (by kernel_rfl)
 obtain⟨a0,g0,k0⟩:=oo _ _ _ _ _ _ _ _ _ h0
 obtain⟨a1,g1,k1⟩:=axr _ _ _ _ _ _ _ _ _ h1
 obtain⟨a2,g2,k2⟩:=axs _ _ _ _ _ _ _ _ _ h2
 obtain⟨a3,g3,k3⟩:=axt _ _ _ _ _ _ _ _ _ h3
 have hn:cs.length=4:=hl.trans (by kernel_rfl)
 exact⟨⟨a0,a1,a2,a3⟩,⟨_,x1.1,x2.1,x3.1,by rw[hx],⟨List.mem_map.2 ⟨x1,List.mem_of_getElem? e1,rfl⟩,g1⟩,⟨List.mem_map.2 ⟨x2,List.mem_of_getElem? e2,rfl⟩,g2⟩,⟨List.mem_map.2 ⟨x3,List.mem_of_getElem? e3,rfl⟩,g3⟩⟩,(gg k0 (gg k1 (gg k2 (gg k3 (Cr _ hn)))))⟩
theorem Je {H:Type} {en:TypeId×Value→H} {W:World} {base:Nat} {sp:Nat→Bool} {held:Bool} (b:Bool):DataW.Trod en Tryz.prog W base sp held 4 (.bool b) (.lit (.bool b)) []:=⟨1,by simp[DataW.trod,Value.cells,Tryz.underlying4]⟩
theorem ant {H:Type} (d:DataW H):1≤Rows.uptoBulk d:=by
 cases d with
 | lit l=>cases l<;>simp[Rows.uptoBulk]
 | nil=>simp[Rows.uptoBulk]
 | ptr d=>simp[Rows.uptoBulk]
 | slice elems spare=>simp[Rows.uptoBulk]
 | agg parts=>simp[Rows.uptoBulk]
 | iface t d=>simp[Rows.uptoBulk]
 | map entries=>simp[Rows.uptoBulk]
 | held h=>simp[Rows.uptoBulk]
theorem U1 {H:Type} {d:DataW H} {l:List (DataW H)} (h:d∈l):Rows.uptoBulk d≤Rows.uptoBulkAll l:=by
 induction l with
 | nil=>cases h
 | cons x r ih=>
  simp only[Rows.uptoBulkAll]
  rcases List.mem_cons.1 h with e | e
  ·subst e;omega
  have:=ih e;omega
theorem ans {H:Type} (l:List (DataW H)):l.length≤Rows.uptoBulkAll l:=by
 induction l with
 | nil=>simp[Rows.uptoBulkAll]
 | cons x r ih=>have:=ant x;simp only[Rows.uptoBulkAll,List.length_cons];omega
theorem AN {α:Type} {qU:(H:Type)→DataW H→α→Prop} {H:Type} {d:DataW H} {l:List α} (h:zr qU H d l) {B:Nat} (hB:Rows.uptoBulk d≤B):l.length≤B:=by
 rcases h.2 with rfl | ⟨elems,spare,rfl,h1,h2⟩
 ·exact Nat.zero_le _
 have:=ans elems
 simp only[Rows.uptoBulk] at hB
 omega
theorem aBs {α:Type} {qU:(H:Type)→DataW H→α→Prop} {H:Type} {d:DataW H} {l:List α} (h:zr qU H d l) {B:Nat} (hB:Rows.uptoBulk d≤B) {a:α} (ha:a∈l):∃ d',qU H d' a∧Rows.uptoBulk d'≤B:=by
 rcases h.2 with rfl | ⟨elems,spare,rfl,h1,h2⟩
 ·cases ha
 obtain⟨i,hi⟩:=List.getElem?_of_mem ha
 obtain⟨d',h3,h4⟩:=h2 i a hi
 have:=U1 (List.mem_of_getElem? h3)
 simp only[Rows.uptoBulk] at hB
 exact⟨d',h4,by omega⟩
theorem Qw {H:Type} {d:DataW H} {s:Score} (h:agb H d s) (hB:Rows.uptoBulk d≤1048576):s.bars.length≤1048576:=by
 obtain⟨ds,d1,d2,d3,rfl,h1,h2,h3⟩:=h
 have:=U1 h1.1
 simp only[Rows.uptoBulk] at hB
 exact AN h1.2 (by omega)
theorem tA {H:Type} {ds:List (DataW H)} (h:Rows.uptoSmall H ds=true) {d:DataW H} (hd:d∈ds):Rows.uptoBulk d≤1048576:=by
 have h1:Rows.uptoBulkAll ds≤1048576:=of_decide_eq_true h
 have:=U1 hd
 omega
theorem af8:Tryz.prog.globalNamed "partbook/pitch.naturals" = some 0:=by kernel_rfl
theorem aph:(Tryz.prog.globals[0]?).map (·.type)=some 197:=by kernel_rfl
theorem anD:Tryz.prog.cellsOf 197=7:=by kernel_rfl
theorem anB:Tryz.prog.cellsOf 3=1:=by kernel_rfl
theorem table {W:World} (h:laidMetH Tryz.prog [("partbook/pitch.naturals",Rows.laid_partbook_pitch_naturals)] W):Lib.TabIs Tryz.prog W "partbook/pitch.naturals" .i64 wk:=
 Lib.tabIs_of_head (rest:=[]) af8 aph Tryz.underlying197 Tryz.underlying3 anB anD h
theorem dS {W:World} (h:laidMetH Tryz.prog [("partbook/pitch.naturals",Rows.laid_partbook_pitch_naturals)] W):∀ g d,ck.uK g=some d→Rd (allI W) (.pointer (some ⟨g,0,none⟩)) (.box d):=by
 intro g d hd
 have bg:ac1 g=some d:=hd
 unfold ac1 at bg
 split at bg
 ·rename_i hg
  subst hg
  injection bg with bg
  subst bg
  have ht:=fun i hi=>(table h).cell af8 i hi
  refine .box 0 _ (fun k=>(W.cell? ⟨0,k,none⟩).getD undef) (fun x hx=>?_) (fun k hk=>?_) (fun k x hx=>?_)
  ·obtain⟨n,_,rfl⟩:=List.mem_map.1 (show x∈wk.map au.enc from hx);rfl
  ·have jr:k < wk.length:=by simpa [D.cells] using hk
   show W.cell? ⟨0,k,none⟩=_
   rw[ht k jr];rfl
  have oF:(wk.map (au.enc:Int→D))[k]?=some x:=hx
  rw[List.getElem?_map] at oF
  obtain⟨n,hn,rfl⟩:=Option.map_eq_some_iff.1 oF
  have jr:k < wk.length:=(List.getElem?_eq_some_iff.1 hn).1
  rw[ht k jr,List.getD_eq_getElem?_getD,hn]
  exact .int _ _
 cases bg
end Go.Proofs.YtjigeffmmcmlnaaGreatDoor
