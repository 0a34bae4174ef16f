import Derived.Test.YthhlipkkjippfaaGreatDoorX6
import Derived.Shelf.SlGeneric
import Derived.Shelf.SlIterI.Nil
import Derived.Shelf.SortM.Plain
import Derived.Shelf.SortM.SortNone
import Derived.Ground.SlsfProg
import Derived.Ground.GgzProg
import Derived.Ground.SlgmProg
import Derived.Shelf.SlSortCmp.WholeK
import Derived.Shelf.SlSortCmp.NoneTotal
set_option linter.all false
noncomputable section
namespace Go.Proofs.YthhlipkkjippfaaGreatDoor
open Go Go.ag Go.Sy
def kQ:(Int×Int)->Option Rat:=λ(j,k)=>some (⟨j,k⟩:Rat)
def Fe:Unit->Option (eo×ej):=λ()=>aa (kQ (0,1)) λj=>aa (kQ (1,1)) λk=>aa (kQ (4,1)) λB=>some ((⟨(⟨3,((⟨1,B,0⟩:aT)::([]:List aT)),((⟨1,0,0,0,2,(⟨0,0⟩:bZ),(⟨0,0,0⟩:aV),(⟨0,0,8⟩:aV)⟩:aC)::((⟨2,0,1,1,1,(⟨0,0⟩:bZ),(⟨0,0,0⟩:aV),(⟨0,0,8⟩:aV)⟩:aC)::([]:List aC))),((⟨5,1,1,0,0,j,k,(⟨0,0,4⟩:aV)⟩:ak)::([]:List ak))⟩:bI),(⟨0,([]:List bL),([]:List Ending),(⟨0,0,0⟩:im),([]:List bK)⟩:Form),([]:List sR)⟩:eo),(⟨3,(⟨1,((⟨0,1,2⟩:bL)::([]:List bL)),([]:List Ending),(⟨0,0,0⟩:im),([]:List bK)⟩:Form),([]:List Int)⟩:ej))
def AL:dp->Option Bool:=λ(B)=>aZ (aB (λk:(Int×Int)=>ab (ah k.2 (B.form.aY.length:Int)) (aa (au B.form.aY k.2) λj=>aa (ab (ah j.from_ k.1) (some true) (ab (leI j.aQ j.from_) (some true) (ab (ah B.form.bars j.aQ) (some true) (ab (ah j.times 1) (some true) (some (ah 9 j.times)))))) λ(F:Bool)=>ab F (some (.inr (.inr false))) (ae (ai (k.2+1)) <|some (.inl (j.aQ,(k.2+1))))) (some (.inr (.inl ())))) (0,0)) λ(k:Unit)=>some (leI (B.form.aY.length:Int) 100)
def Fq:(bL×Ending)->Option Bool:=λ(j,k)=>aa (ab (leI j.from_ k.from_) (some (leI k.aQ j.aQ)) (some false)) λ(B:Bool)=>some B
def FG:((List bL)×Ending)->Option Int:=λ(k,B)=>aZ (aB (λj:Int=>ab (ah j (k.length:Int)) (aa (au k j) λF=>aa (Fq (F,B)) λG=>ab G (some (.inr (.inr j))) (ae (ai (j+1)) <|some (.inl (j+1)))) (some (.inr (.inl ())))) 0) λ(j:Unit)=>some (-1)
def A4:((List bL)×Ending)->Option Bool:=λ(j,k)=>aa (FG (j,k)) λB=>some (leI 0 B)
def AJ:dp->Option Bool:=λ(B)=>aZ (aB (λk:(Int×Int)=>ab (ah k.2 (B.form.bE.length:Int)) (aa (au B.form.bE k.2) λj=>aa (A4 (B.form.aY,j)) λG=>aa (ab (ah j.from_ k.1) (some true) (ab (leI j.aQ j.from_) (some true) (ab (!G) (some true) (ab (ah j.pass 1) (some true) (some (ah 9 j.pass)))))) λ(F:Bool)=>ab F (some (.inr (.inr false))) (ae (ai (k.2+1)) <|some (.inl (j.aQ,(k.2+1))))) (some (.inr (.inl ())))) (0,0)) λ(k:Unit)=>some (leI (B.form.bE.length:Int) 100)
def Ft:(bL×Int)->Option Bool:=λ(j,k)=>aa (ab (ah j.from_ k) (some (ah k j.aQ)) (some false)) λ(B:Bool)=>some B
def FH:((List bL)×Int)->Option Int:=λ(k,B)=>aZ (aB (λj:Int=>ab (ah j (k.length:Int)) (aa (au k j) λF=>aa (Ft (F,B)) λG=>ab G (some (.inr (.inr j))) (ae (ai (j+1)) <|some (.inl (j+1)))) (some (.inr (.inl ())))) 0) λ(j:Unit)=>some (-1)
def Fy:((List bL)×Int)->Option Bool:=λ(j,k)=>aa (FH (j,k)) λB=>some (leI 0 B)
def uA:(dp×Int)->Option Bool:=λ(j,k)=>aa (Fy (j.form.aY,k)) λB=>some B
def AN:dp->Option Bool:=λ(j)=>ab (Cz j.form.jump (⟨0,0,0⟩:im)) (some true) (aa (ab (ah j.form.jump.at_ 1) (some true) (ab (ah j.form.bars j.form.jump.at_) (some true) (ab (ah j.form.jump.to 0) (some true) (ab (leI j.form.jump.at_ j.form.jump.to) (some true) (ab (leI j.form.jump.dj j.form.jump.to) (some true) (some (ah j.form.bars j.form.jump.dj))))))) λ(B:Bool)=>ab B (some false) (aa (aa (uA (j,j.form.jump.at_)) λk=>ab (!k) (aa (uA (j,j.form.jump.to)) λF=>ab (!F) (aa (uA (j,j.form.jump.dj)) λG=>some (!G)) (some false)) (some false)) λ(k:Bool)=>some k))
def AM:(dp×bK)->Option Bool:=λ(k,j)=>aa (ab (leI 0 j.from_) (ab (ah j.from_ j.aQ) (ab (leI j.aQ k.form.bars) (ab (leI 0 j.pass) (some (leI j.pass 20)) (some false)) (some false)) (some false)) (some false)) λ(B:Bool)=>some B
def AI:dp->Option Bool:=λ(k)=>aZ (aB (λj:(Int×(List (bK×Bool)))=>ab (ah j.1 (k.form.bj.length:Int)) (aa (au k.form.bj j.1) λB=>aa (aa (AM (k,B)) λF=>ab (!F) (some true) (some (my 10 j.2 B false))) λ(F:Bool)=>ab F (some (.inr (.inr false))) (ae (ai (j.1+1)) <|some (.inl ((j.1+1),(kL 10 j.2 B true))))) (some (.inr (.inl ())))) (0,([]:List (bK×Bool)))) λ(j:Unit)=>some (leI (k.form.bj.length:Int) 100)
def Fu:dp->Option dp:=λ(j)=>some j
def w8:(dp×(Int×(Int×Bool)))->Option (Int×(Int×(dp×Bool))):=λ(j,k,B,F)=>some (k,(B,(j,F)))
def Fs:(Ending×(Int×Int))->Option Bool:=λ(j,k,B)=>aa (ab (leI j.from_ k) (ab (ah k j.aQ) (some (!(aF j.pass B))) (some false)) (some false)) λ(F:Bool)=>some F
def FD:((List Ending)×(Int×Int))->Option Int:=λ(k,B)=>aZ (aB (λj:Int=>ab (ah j (k.length:Int)) (aa (au k j) λF=>aa (Fs (F,(B.1,B.2))) λG=>ab G (some (.inr (.inr j))) (ae (ai (j+1)) <|some (.inl (j+1)))) (some (.inr (.inl ())))) 0) λ(j:Unit)=>some (-1)
def Fx:((List Ending)×(Int×Int))->Option Bool:=λ(j,k)=>aa (FD (j,k)) λB=>some (leI 0 B)
def iW:(dp×(Int×Int))->Option Bool:=λ(j,k,B)=>aa (Fx (j.form.bE,(k,B))) λF=>some F
def AP:dp->Option Bool:=λ(Z)=>aZ (aa (Fu Z) λU=>aa (ab (aF U.form.jump.at_ 0) (some U.form.bars) (some U.form.jump.at_)) λ(ad:Int)=>aZ (aa (w8 (U,(0,(ad,true)))) λN=>aB (λF:(Int×((List (Int×Int))×Int))=>ab (ah F.2.2 N.2.1) (aZ (aa (aZ (aB (λk:Int=>ab (ah k (N.2.2.1.form.aY.length:Int)) (aa (au N.2.2.1.form.aY k) λG=>ab (aF G.from_ F.2.2) (some (.inr (.inr k))) (ae (ai (k+1)) <|some (.inl (k+1)))) (some (.inr (.inl ())))) 0) λ(k:Unit)=>some (-1)) λ(k:Int)=>ab (ah k 0) (ae (ai ((aq F.2.1 F.2.2 0)+1)) <|ae (ai (F.1+1)) <|ab (ah 20000 (F.1+1)) (some (.inr (.inr (.inr (.inr false))))) (some (.inl ((F.1+1),((aM F.2.1 F.2.2 ((aq F.2.1 F.2.2 0)+1)),F.2.2))))) (aa (au N.2.2.1.form.aY k) λG=>aa (ab N.2.2.2 (some 1) (some G.times)) λ(O:Int)=>aZ (aB (λM:(Int×(Int×(List (Int×Int))))=>ab (leI M.1 G.times) (aZ (aB (λj:(Int×(Int×(List (Int×Int))))=>ab (ah j.1 G.aQ) (aZ (aa (iW (N.2.2.1,(j.1,M.1))) λB=>ab (!B) (ae (ai ((aq j.2.2 j.1 0)+1)) <|ae (ai (j.2.1+1)) <|ab (ah 20000 (j.2.1+1)) (some (.inr (.inr (.inr (.inr (.inr (.inr (.inr (.inr (.inr false)))))))))) (some (.inl ((j.2.1+1),(aM j.2.2 j.1 ((aq j.2.2 j.1 0)+1)))))) (some (.inl (j.2.1,j.2.2)))) λ(B:(Int×(List (Int×Int))))=>ae (ai (j.1+1)) <|some (.inl ((j.1+1),(B.1,B.2)))) (some (.inr (.inl (j.2.1,j.2.2))))) (G.from_,(M.2.1,M.2.2))) λ(j:(Int×(List (Int×Int))))=>ae (ai (M.1+1)) <|some (.inl ((M.1+1),(j.1,j.2)))) (some (.inr (.inl (M.2.1,M.2.2))))) (O,(F.1,F.2.1))) λ(M:(Int×(List (Int×Int))))=>ae (ai (G.aQ-1)) <|some (.inl (M.1,(M.2,(G.aQ-1)))))) λ(k:(Int×((List (Int×Int))×Int)))=>ae (ai (k.2.2+1)) <|some (.inl (k.1,(k.2.1,(k.2.2+1))))) (some (.inr (.inl (F.1,F.2.1))))) (0,(([]:List (Int×Int)),N.1))) λ(N:(Int×(List (Int×Int))))=>aa (w8 (U,(U.form.jump.to,(U.form.jump.dj,false)))) λF=>aB (λk:(Int×((List (Int×Int))×Int))=>ab (ah k.2.2 F.2.1) (aZ (aa (aZ (aB (λG:Int=>ab (ah G (F.2.2.1.form.aY.length:Int)) (aa (au F.2.2.1.form.aY G) λO=>ab (aF O.from_ k.2.2) (some (.inr (.inr G))) (ae (ai (G+1)) <|some (.inl (G+1)))) (some (.inr (.inl ())))) 0) λ(G:Unit)=>some (-1)) λ(G:Int)=>ab (ah G 0) (ae (ai ((aq k.2.1 k.2.2 0)+1)) <|ae (ai (k.1+1)) <|ab (ah 20000 (k.1+1)) (some (.inr (.inr (.inr false)))) (some (.inl ((k.1+1),((aM k.2.1 k.2.2 ((aq k.2.1 k.2.2 0)+1)),k.2.2))))) (aa (au F.2.2.1.form.aY G) λO=>aa (ab F.2.2.2 (some 1) (some O.times)) λ(M:Int)=>aZ (aB (λj:(Int×(Int×(List (Int×Int))))=>ab (leI j.1 O.times) (aZ (aB (λB:(Int×(Int×(List (Int×Int))))=>ab (ah B.1 O.aQ) (aZ (aa (iW (F.2.2.1,(B.1,j.1))) λY=>ab (!Y) (ae (ai ((aq B.2.2 B.1 0)+1)) <|ae (ai (B.2.1+1)) <|ab (ah 20000 (B.2.1+1)) (some (.inr (.inr (.inr (.inr (.inr (.inr (.inr (.inr false))))))))) (some (.inl ((B.2.1+1),(aM B.2.2 B.1 ((aq B.2.2 B.1 0)+1)))))) (some (.inl (B.2.1,B.2.2)))) λ(Y:(Int×(List (Int×Int))))=>ae (ai (B.1+1)) <|some (.inl ((B.1+1),(Y.1,Y.2)))) (some (.inr (.inl (B.2.1,B.2.2))))) (O.from_,(j.2.1,j.2.2))) λ(B:(Int×(List (Int×Int))))=>ae (ai (j.1+1)) <|some (.inl ((j.1+1),(B.1,B.2)))) (some (.inr (.inl (j.2.1,j.2.2))))) (M,(k.1,k.2.1))) λ(j:(Int×(List (Int×Int))))=>ae (ai (O.aQ-1)) <|some (.inl (j.1,(j.2,(O.aQ-1)))))) λ(G:(Int×((List (Int×Int))×Int)))=>ae (ai (G.2.2+1)) <|some (.inl (G.1,(G.2.1,(G.2.2+1))))) (some (.inr (.inl ())))) (N.1,(N.2,F.1))) λ(U:Unit)=>some true
def AH:Form->Option Bool:=λ(j)=>aa (ab (leI 1 j.bars) (ab (leI j.bars 4000) (aa (AL (⟨j⟩:dp)) λk=>ab k (aa (AJ (⟨j⟩:dp)) λB=>ab B (aa (AN (⟨j⟩:dp)) λF=>ab F (aa (AI (⟨j⟩:dp)) λG=>ab G (aa (AP (⟨j⟩:dp)) λM=>some M) (some false)) (some false)) (some false)) (some false)) (some false)) (some false)) λ(k:Bool)=>some k
def Fp:(bK×aA)->Option Bool:=λ(j,k)=>aa (ab (leI j.from_ k.av) (ab (ah k.av j.aQ) (ab (aF j.pass 0) (some true) (some (aF j.pass k.pass))) (some false)) (some false)) λ(B:Bool)=>some B
def FC:((List bK)×aA)->Option Int:=λ(k,B)=>aZ (aB (λj:Int=>ab (ah j (k.length:Int)) (aa (au k j) λF=>aa (Fp (F,B)) λG=>ab G (some (.inr (.inr j))) (ae (ai (j+1)) <|some (.inl (j+1)))) (some (.inr (.inl ())))) 0) λ(j:Unit)=>some (-1)
def iZ:((List bK)×aA)->Option Bool:=λ(j,k)=>aa (FC (j,k)) λB=>some (leI 0 B)
def uz:Form->Option ((List aA)×Int):=λ(Y)=>aa (AH Y) λag=>ab (!ag) (some (([]:List aA),1)) (aa (aa (Fu (⟨Y⟩:dp)) λU=>aa (ab (aF U.form.jump.at_ 0) (some U.form.bars) (some U.form.jump.at_)) λ(af:Int)=>aa (aa (w8 (U,(0,(af,true)))) λO=>aB (λF:((List (Int×Int))×(Int×(List aA)))=>ab (ah F.2.1 O.2.1) (aa (aa (aZ (aB (λk:Int=>ab (ah k (O.2.2.1.form.aY.length:Int)) (aa (au O.2.2.1.form.aY k) λG=>ab (aF G.from_ F.2.1) (some (.inr (.inr k))) (ae (ai (k+1)) <|some (.inl (k+1)))) (some (.inr (.inl ())))) 0) λ(k:Unit)=>some (-1)) λ(k:Int)=>ab (ah k 0) (ae (ai ((aq F.1 F.2.1 0)+1)) <|aa (aa (iZ (Y.bj,(⟨F.2.1,(aq (aM F.1 F.2.1 ((aq F.1 F.2.1 0)+1)) F.2.1 0)⟩:aA))) λG=>ab (!G) (ae (decide ((List.append F.2.2 ((⟨F.2.1,(aq (aM F.1 F.2.1 ((aq F.1 F.2.1 0)+1)) F.2.1 0)⟩:aA)::([]:List aA))).length*16<=140737488355328/\(List.append F.2.2 ((⟨F.2.1,(aq (aM F.1 F.2.1 ((aq F.1 F.2.1 0)+1)) F.2.1 0)⟩:aA)::([]:List aA))).length<=9223372036854775807)) <|some (List.append F.2.2 ((⟨F.2.1,(aq (aM F.1 F.2.1 ((aq F.1 F.2.1 0)+1)) F.2.1 0)⟩:aA)::([]:List aA)))) (some F.2.2)) λ(G:(List aA))=>some ((aM F.1 F.2.1 ((aq F.1 F.2.1 0)+1)),(F.2.1,G))) (aa (au O.2.2.1.form.aY k) λG=>aa (ab O.2.2.2 (some 1) (some G.times)) λ(M:Int)=>aa (aB (λN:(Int×((List (Int×Int))×(List aA)))=>ab (leI N.1 G.times) (aa (aB (λj:(Int×((List (Int×Int))×(List aA)))=>ab (ah j.1 G.aQ) (aa (aa (iW (O.2.2.1,(j.1,N.1))) λB=>ab (!B) (ae (ai ((aq j.2.1 j.1 0)+1)) <|aa (aa (iZ (Y.bj,(⟨j.1,(aq (aM j.2.1 j.1 ((aq j.2.1 j.1 0)+1)) j.1 0)⟩:aA))) λZ=>ab (!Z) (ae (decide ((List.append j.2.2 ((⟨j.1,(aq (aM j.2.1 j.1 ((aq j.2.1 j.1 0)+1)) j.1 0)⟩:aA)::([]:List aA))).length*16<=140737488355328/\(List.append j.2.2 ((⟨j.1,(aq (aM j.2.1 j.1 ((aq j.2.1 j.1 0)+1)) j.1 0)⟩:aA)::([]:List aA))).length<=9223372036854775807)) <|some (List.append j.2.2 ((⟨j.1,(aq (aM j.2.1 j.1 ((aq j.2.1 j.1 0)+1)) j.1 0)⟩:aA)::([]:List aA)))) (some j.2.2)) λ(Z:(List aA))=>some ((aM j.2.1 j.1 ((aq j.2.1 j.1 0)+1)),Z)) (some (j.2.1,j.2.2))) λ(B:((List (Int×Int))×(List aA)))=>ae (ai (j.1+1)) <|some (.inl ((j.1+1),(B.1,B.2)))) (some (.inr (j.2.1,j.2.2)))) (G.from_,(N.2.1,N.2.2))) λ(j:((List (Int×Int))×(List aA)))=>ae (ai (N.1+1)) <|some (.inl ((N.1+1),(j.1,j.2)))) (some (.inr (N.2.1,N.2.2)))) (M,(F.1,F.2.2))) λ(N:((List (Int×Int))×(List aA)))=>ae (ai (G.aQ-1)) <|some (N.1,((G.aQ-1),N.2)))) λ(k:((List (Int×Int))×(Int×(List aA))))=>ae (ai (k.2.1+1)) <|some (.inl (k.1,((k.2.1+1),k.2.2)))) (some (.inr (F.2.2,F.1)))) (([]:List (Int×Int)),(O.1,([]:List aA)))) λ(O:((List aA)×(List (Int×Int))))=>aa (w8 (U,(U.form.jump.to,(U.form.jump.dj,false)))) λF=>aB (λk:((List aA)×((List (Int×Int))×Int))=>ab (ah k.2.2 F.2.1) (aa (aa (aZ (aB (λG:Int=>ab (ah G (F.2.2.1.form.aY.length:Int)) (aa (au F.2.2.1.form.aY G) λM=>ab (aF M.from_ k.2.2) (some (.inr (.inr G))) (ae (ai (G+1)) <|some (.inl (G+1)))) (some (.inr (.inl ())))) 0) λ(G:Unit)=>some (-1)) λ(G:Int)=>ab (ah G 0) (ae (ai ((aq k.2.1 k.2.2 0)+1)) <|aa (aa (iZ (Y.bj,(⟨k.2.2,(aq (aM k.2.1 k.2.2 ((aq k.2.1 k.2.2 0)+1)) k.2.2 0)⟩:aA))) λM=>ab (!M) (ae (decide ((List.append k.1 ((⟨k.2.2,(aq (aM k.2.1 k.2.2 ((aq k.2.1 k.2.2 0)+1)) k.2.2 0)⟩:aA)::([]:List aA))).length*16<=140737488355328/\(List.append k.1 ((⟨k.2.2,(aq (aM k.2.1 k.2.2 ((aq k.2.1 k.2.2 0)+1)) k.2.2 0)⟩:aA)::([]:List aA))).length<=9223372036854775807)) <|some (List.append k.1 ((⟨k.2.2,(aq (aM k.2.1 k.2.2 ((aq k.2.1 k.2.2 0)+1)) k.2.2 0)⟩:aA)::([]:List aA)))) (some k.1)) λ(M:(List aA))=>some ((aM k.2.1 k.2.2 ((aq k.2.1 k.2.2 0)+1)),(k.2.2,M))) (aa (au F.2.2.1.form.aY G) λM=>aa (ab F.2.2.2 (some 1) (some M.times)) λ(N:Int)=>aa (aB (λj:(Int×((List aA)×(List (Int×Int))))=>ab (leI j.1 M.times) (aa (aB (λB:(Int×((List aA)×(List (Int×Int))))=>ab (ah B.1 M.aQ) (aa (aa (iW (F.2.2.1,(B.1,j.1))) λZ=>ab (!Z) (ae (ai ((aq B.2.2 B.1 0)+1)) <|aa (aa (iZ (Y.bj,(⟨B.1,(aq (aM B.2.2 B.1 ((aq B.2.2 B.1 0)+1)) B.1 0)⟩:aA))) λad=>ab (!ad) (ae (decide ((List.append B.2.1 ((⟨B.1,(aq (aM B.2.2 B.1 ((aq B.2.2 B.1 0)+1)) B.1 0)⟩:aA)::([]:List aA))).length*16<=140737488355328/\(List.append B.2.1 ((⟨B.1,(aq (aM B.2.2 B.1 ((aq B.2.2 B.1 0)+1)) B.1 0)⟩:aA)::([]:List aA))).length<=9223372036854775807)) <|some (List.append B.2.1 ((⟨B.1,(aq (aM B.2.2 B.1 ((aq B.2.2 B.1 0)+1)) B.1 0)⟩:aA)::([]:List aA)))) (some B.2.1)) λ(ad:(List aA))=>some ((aM B.2.2 B.1 ((aq B.2.2 B.1 0)+1)),ad)) (some (B.2.2,B.2.1))) λ(Z:((List (Int×Int))×(List aA)))=>ae (ai (B.1+1)) <|some (.inl ((B.1+1),(Z.2,Z.1)))) (some (.inr (B.2.1,B.2.2)))) (M.from_,(j.2.1,j.2.2))) λ(B:((List aA)×(List (Int×Int))))=>ae (ai (j.1+1)) <|some (.inl ((j.1+1),(B.1,B.2)))) (some (.inr (j.2.1,j.2.2)))) (N,(k.1,k.2.1))) λ(j:((List aA)×(List (Int×Int))))=>ae (ai (M.aQ-1)) <|some (j.2,((M.aQ-1),j.1)))) λ(G:((List (Int×Int))×(Int×(List aA))))=>ae (ai (G.2.1+1)) <|some (.inl (G.2.2,(G.1,(G.2.1+1))))) (some (.inr k.1))) (O.1,(O.2,F.1))) λ(U:(List aA))=>some (U,0))
def mE:Rat->Option Bool:=λ(j)=>aa (ab (ah j.d 1) (some true) (ab (ah 1000000 j.d) (some true) (ab (ah j.n (-1000000000)) (some true) (some (ah 1000000000 j.n))))) λ(k:Bool)=>ab k (some false) (aa (uy (⟨j.n,j.d⟩:eQ)) λB=>some (Ir B (⟨j.n,j.d⟩:eQ)))
def z7:Rat->Option Bool:=λ(j)=>aa (aa (mE j) λk=>ab k (ab (leI 0 j.n) (ae (!(aF j.d 0)) <|some (aF (Int.tmod 1680 j.d) 0)) (some false)) (some false)) λ(k:Bool)=>some k
def rY:(Int×(Int×Int))->Option Bool:=λ(j,k,B)=>aa (ab (leI k j) (some (leI j B)) (some false)) λ(F:Bool)=>some F
def iI:aV->Option Bool:=λ(j)=>aa (aa (rY (j.step,(0,6))) λk=>ab k (aa (rY (j.alter,((-4),4))) λB=>ab B (aa (rY (j.bm,((-8),20))) λF=>some F) (some false)) (some false)) λ(k:Bool)=>some k
def z6:aw->Option Bool:=λ(j)=>aa (ab (leI 0 j.bp) (ab (leI j.bp 9) (ab (leI 0 j.bO) (ab (leI j.bO 20) (aa (z7 j.start) λk=>ab k (aa (iI j.aU) λB=>some B) (some false)) (some false)) (some false)) (some false)) (some false)) λ(k:Bool)=>some k
def E9:aw->Option Bool:=λ(j)=>aa (z6 j) λk=>some (!k)
def A7:((List aw)×Unit)->Option Bool:=λ(k,G)=>aa (aZ (aB (λj:Int=>ab (ah j (k.length:Int)) (aa (au k j) λB=>aa (E9 B) λF=>ab F (some (.inr (.inr j))) (ae (ai (j+1)) <|some (.inl (j+1)))) (some (.inr (.inl ())))) 0) λ(j:Unit)=>some (-1)) λ(j:Int)=>some (leI 0 j)
def rU:aJ->Option Bool:=λ(B)=>aZ (aB (λj:(Int×Int)=>ab (ah j.2 (B.bu.length:Int)) (aa (au B.bu j.2) λk=>ae (ai (j.1+(k.aK.length:Int))) <|aa (A7 (k.aK,())) λF=>ab F (some (.inr (.inr false))) (ae (ai (j.2+1)) <|some (.inl ((j.1+(k.aK.length:Int)),(j.2+1))))) (some (.inr (.inl j.1)))) (0,0)) λ(j:Int)=>aa (ab (leI (B.bu.length:Int) 4000) (some (leI j 20000)) (some false)) λ(k:Bool)=>some k
def L6:(List Int)->Option (List Int):=λ(j)=>some j
def A6:((List aw)×Int)->Option Bool:=λ(k,B)=>aa (aZ (aB (λj:Int=>ab (ah j (k.length:Int)) (aa (au k j) λF=>ab (aF F.bO B) (some (.inr (.inr j))) (ae (ai (j+1)) <|some (.inl (j+1)))) (some (.inr (.inl ())))) 0) λ(j:Unit)=>some (-1)) λ(j:Int)=>some (leI 0 j)
def zW:(aR×(List Int))->Option Int:=λ(G,M)=>aa (aa (L6 M) λk=>ae (ai ((k.length:Int)-1)) <|aB (λj:(Int×Int)=>ab (leI 0 j.1) (aa (au k j.1) λF=>aa (aa (A6 (G.aK,F)) λB=>ab B (some F) (some j.2)) λ(B:Int)=>ae (ai (j.1-1)) <|some (.inl ((j.1-1),B))) (some (.inr j.2))) (((k.length:Int)-1),0)) λ(k:Int)=>some k
def wM:(aR×(List Int))->Option aR:=λ(B,N)=>aa (zW (B,N)) λM=>aa (oP (List.isEmpty B.aK) (some ([]:List aw)) (ae (decide ((List.append ([]:List aw) B.aK).length*80<=140737488355328/\(List.append ([]:List aw) B.aK).length<=9223372036854775807)) <|some (List.append ([]:List aw) B.aK))) λ(F:(List aw))=>aa (aa (aZ (aB (λk:Int=>ab (ah k (F.length:Int)) (ae ((leI 0 k)&&(ah k (F.length:Int))) <|aa (au F k) λj=>ab (!(aF j.bO M)) (some (.inr (.inr k))) (ae (ai (k+1)) <|some (.inl (k+1)))) (some (.inr (.inl ())))) 0) λ(k:Unit)=>some (-1)) λ(k:Int)=>ab (aF k (-1)) (some F) (aa (ae (ai (k+1)) <|aB (λj:(Int×(Int×(List aw)))=>ab (ah j.2.1 (j.2.2.length:Int)) (aa (ae ((leI 0 j.2.1)&&(ah j.2.1 (j.2.2.length:Int))) <|aa (au j.2.2 j.2.1) λG=>ab (!(!(aF G.bO M))) (ae ((leI 0 j.1)&&(ah j.1 (j.2.2.length:Int))) <|aa (au j.2.2 j.1) λO=>ae (ai (j.1+1)) <|some ((j.1+1),(List.set j.2.2 (Int.toNat j.1) G))) (some (j.1,j.2.2))) λ(G:(Int×(List aw)))=>ae (ai (j.2.1+1)) <|some (.inl (G.1,((j.2.1+1),G.2)))) (some (.inr (j.1,j.2.2)))) (k,((k+1),F))) λ(j:(Int×(List aw)))=>ae ((leI 0 j.1)&&(leI j.1 (j.2.length:Int))) <|ae ((leI 0 j.1)&&(leI j.1 ((List.append (List.take (Int.toNat j.1) j.2) (List.replicate (Int.toNat ((j.2.length:Int)-j.1)) ((⟨0,0,0,(⟨0,0⟩:Rat),(⟨0,0⟩:Rat),(⟨0,0,0⟩:aV)⟩:aw):aw))).length:Int))) <|some (List.take (Int.toNat j.1) (List.append (List.take (Int.toNat j.1) j.2) (List.replicate (Int.toNat ((j.2.length:Int)-j.1)) ((⟨0,0,0,(⟨0,0⟩:Rat),(⟨0,0⟩:Rat),(⟨0,0,0⟩:aV)⟩:aw):aw)))))) λ(k:(List aw))=>some (⟨B.av,B.key,B.length,k⟩:aR)
def E8:((List aR)×(List Int))->Option (List aR):=λ(B,F)=>aa (aB (λj:(Int×(List aR))=>ab (ah j.1 (B.length:Int)) (aa (au B j.1) λG=>aa (wM (G,F)) λk=>ae (decide ((List.append j.2 (k::([]:List aR))).length*56<=140737488355328/\(List.append j.2 (k::([]:List aR))).length<=9223372036854775807)) <|ae (ai (j.1+1)) <|some (.inl ((j.1+1),(List.append j.2 (k::([]:List aR)))))) (some (.inr j.2))) (0,([]:List aR))) λ(j:(List aR))=>some j
def Fb:(aJ×(List Int))->Option aJ:=λ(j,k)=>aa (E8 (j.bu,k)) λB=>some (⟨j.part,B⟩:aJ)
def mB:(aJ×(List Int))->Option (aJ×Int):=λ(G,B)=>aZ (aB (λj:Int=>ab (ah j (B.length:Int)) (aa (au B j) λF=>aa (ab (ah F 1) (some true) (ab (ah 20 F) (some true) (ab (ah 0 j) (ae (ai (j-1)) <|aa (au B (j-1)) λk=>some (leI F k)) (some false)))) λ(k:Bool)=>ab k (some (.inr (.inr ((⟨0,([]:List aR)⟩:aJ),1)))) (ae (ai (j+1)) <|some (.inl (j+1)))) (some (.inr (.inl ())))) 0) λ(j:Unit)=>aa (rU G) λF=>ab (!F) (some ((⟨0,([]:List aR)⟩:aJ),1)) (aa (Fb (G,B)) λk=>some (k,0))
def iY:(Int×(Int×Int))->Option Bool:=λ(j,k,B)=>aa (ab (leI k j) (some (leI j B)) (some false)) λ(F:Bool)=>some F
def uB:Int->Option Bool:=λ(j)=>aa (iY (j,(1,1000000))) λk=>some k
def wQ:Rat->Option Bool:=λ(j)=>aa (aa (mE j) λk=>ab k (ab (leI 0 j.n) (ae (!(aF j.d 0)) <|some (aF (Int.tmod 1680 j.d) 0)) (some false)) (some false)) λ(k:Bool)=>some k
def r6:(Rat×Rat)->Option (Int×Int):=λ(j,k)=>aa (aa (mE j) λB=>ab (!B) (some true) (aa (mE k) λF=>some (!F))) λ(B:Bool)=>ab B (some (0,1)) (ae (ai (j.n*k.d)) <|ae (ai (k.n*j.d)) <|ab (ah (j.n*k.d) (k.n*j.d)) (some ((-1),0)) (ab (ah (k.n*j.d) (j.n*k.d)) (some (1,0)) (some (0,0))))
def wR:(Rat×Rat)->Option Bool:=λ(j,k)=>aa (r6 (j,k)) λB=>some (ah B.1 0)
def wP:(List aT)->Option Bool:=λ(B)=>aZ (aB (λk:(Int×(List (Int×Bool)))=>ab (ah k.1 (B.length:Int)) (aa (au B k.1) λj=>aa (ab (ah j.id 1) (some true) (ab (ah 1000000 j.id) (some true) (ab (aq k.2 j.id false) (some true) (ab (ah j.key (-7)) (some true) (some (ah 7 j.key)))))) λ(G:Bool)=>ab G (some (.inr (.inr false))) (aa (aa (wQ j.length) λF=>ab (!F) (some true) (ab (aF j.length.n 0) (some true) (aa (wR ((⟨24,1⟩:Rat),j.length)) λM=>some M))) λ(F:Bool)=>ab F (some (.inr (.inr false))) (ae (ai (k.1+1)) <|some (.inl ((k.1+1),(aM k.2 j.id true)))))) (some (.inr (.inl ())))) (0,([]:List (Int×Bool)))) λ(k:Unit)=>aa (ab (leI 1 (B.length:Int)) (some (leI (B.length:Int) 4000)) (some false)) λ(j:Bool)=>some j
def rX:bZ->Option Bool:=λ(k)=>aa (aa (rY (k.steps,((-70),70))) λj=>ab j (aa (rY (k.cw,((-120),120))) λB=>some B) (some false)) λ(j:Bool)=>some j
def oS:bZ->Option (bZ×Int):=λ(j)=>aa (rX j) λk=>ab (!k) (some ((⟨0,0⟩:bZ),1)) (ae (ai (j8 j.steps)) <|ae (ai (j8 j.cw)) <|some ((⟨(j8 j.steps),(j8 j.cw)⟩:bZ),0))
def Fc:bZ->Option Bool:=λ(j)=>aa (oS j) λk=>some (aF k.2 0)
def uk:bZ->Option (Int×Int):=λ(j)=>aa (Fc j) λk=>ab (!k) (some (0,1)) (ae (ai (7*j.cw)) <|ae (ai (12*j.steps)) <|ae (ai ((7*j.cw)-(12*j.steps))) <|some (((7*j.cw)-(12*j.steps)),0))
def r7:bZ->Option Bool:=λ(j)=>aa (uk j) λB=>aa (ab (aF B.2 0) (aa (iY (j.steps,((-21),21))) λk=>ab k (aa (iY (j.cw,((-36),36))) λF=>ab F (aa (iY (B.1,((-12),12))) λG=>some G) (some false)) (some false)) (some false)) λ(k:Bool)=>some k
def qj:aV->Option Int:=λ(j)=>ae (ai (12*j.bm)) <|aa (au (0::(2::(4::(5::(7::(9::(11::([]:List Int)))))))) j.step) λk=>ae (ai ((12*j.bm)+k)) <|ae (ai (((12*j.bm)+k)+j.alter)) <|some (((12*j.bm)+k)+j.alter)
def mC:aV->Option (Int×Int):=λ(j)=>aa (iI j) λB=>ab (!B) (some (0,1)) (aa (qj j) λk=>some (k,0))
def nG:aV->Option Int:=λ(j)=>aa (mC j) λk=>some k.1
def AU:aC->Option Bool:=λ(j)=>aa (aa (uB j.id) λM=>ab M (aa (iY (j.nQ,(0,99))) λk=>ab k (aa (iY (j.of,(0,1000000))) λB=>ab B (aa (iY (j.bm,((-2),2))) λF=>ab F (aa (iY (j.eA,(1,40))) λG=>some G) (some false)) (some false)) (some false)) (some false)) λ(M:Bool)=>aa (ab (!M) (some true) (ab (aF j.of j.id) (some true) (ab (aF j.of 0) (ab (!(aF j.bm 0)) (some true) (aa (r7 j.shift) λk=>some (!k))) (aa (r7 j.shift) λk=>some (!k))))) λ(k:Bool)=>ab k (some false) (aa (aa (iI j.low) λB=>ab B (aa (iI j.high) λF=>ab F (aa (nG j.low) λG=>aa (nG j.high) λN=>some (leI G N)) (some false)) (some false)) λ(B:Bool)=>some B)
def AS:(aC×(List (Int×aC)))->Option Bool:=λ(j,k)=>aa (ab (!(aF j.of 0)) (ab (!(dG k j.of)) (some true) (some (!(aF (aq k j.of (⟨0,0,0,0,0,(⟨0,0⟩:bZ),(⟨0,0,0⟩:aV),(⟨0,0,0⟩:aV)⟩:aC)).of 0)))) (some false)) λ(B:Bool)=>some B
def A8:((List aC)×(List (Int×aC)))->Option Int:=λ(k,B)=>aZ (aB (λj:Int=>ab (ah j (k.length:Int)) (aa (au k j) λF=>aa (AS (F,B)) λG=>ab G (some (.inr (.inr j))) (ae (ai (j+1)) <|some (.inl (j+1)))) (some (.inr (.inl ())))) 0) λ(j:Unit)=>some (-1)
def A3:((List aC)×(List (Int×aC)))->Option Bool:=λ(j,k)=>aa (A8 (j,k)) λB=>some (leI 0 B)
def AR:(List aC)->Option Bool:=λ(B)=>aa (iY ((B.length:Int),(1,60))) λF=>ab (!F) (some false) (aZ (aB (λj:(Int×(List (Int×aC)))=>ab (ah j.1 (B.length:Int)) (aa (au B j.1) λk=>aa (AU k) λG=>ab (!G) (some (.inr (.inr false))) (ae (ai (j.1+1)) <|some (.inl ((j.1+1),(aM j.2 k.id k))))) (some (.inr (.inl j.2)))) (0,([]:List (Int×aC)))) λ(j:(List (Int×aC)))=>aa (ab (aF (j.length:Int) (B.length:Int)) (aa (A3 (B,j)) λk=>some (!k)) (some false)) λ(k:Bool)=>some k)
def wT:(List aT)->Option (List (Int×Int)):=λ(k)=>aa (aB (λj:(Int×(List (Int×Int)))=>ab (ah j.1 (k.length:Int)) (aa (au k j.1) λB=>ae (ai (j.1+1)) <|some (.inl ((j.1+1),(aM j.2 B.id j.1)))) (some (.inr j.2))) (0,([]:List (Int×Int)))) λ(j:(List (Int×Int)))=>some j
def qi:Rat->Option (Int×Bool):=λ(j)=>aa (aa (mE j) λk=>ab (!k) (some true) (ab (ah j.n 0) (some true) (ae (!(aF j.d 0)) <|some (!(aF (Int.tmod 1680 j.d) 0))))) λ(k:Bool)=>ab k (some (0,false)) (ae (!(aF j.d 0)) <|ae (ai (Int.tdiv 1680 j.d)) <|ae (ai (j.n*(Int.tdiv 1680 j.d))) <|some ((j.n*(Int.tdiv 1680 j.d)),true))
def rW:(Int×(Int×Int))->Option Bool:=λ(j,k,B)=>aa (ab (leI k j) (some (leI j B)) (some false)) λ(F:Bool)=>some F
def wU:Int->Option Bool:=λ(j)=>aa (rW (j,(1,1000000))) λk=>some k
def Ah:aV->Option Bool:=λ(j)=>aa (aa (iI j) λk=>ab k (aa (rW (j.alter,((-2),2))) λB=>ab B (aa (rW (j.bm,(0,9))) λF=>some F) (some false)) (some false)) λ(k:Bool)=>some k
def Ag:(aT×ak)->Option Bool:=λ(G,j)=>aa (qi j.start) λB=>aa (qi j.length) λk=>aa (qi G.length) λM=>aa (ab B.2 (ab k.2 (ab (ah 0 k.1) (ae (ai (B.1+k.1)) <|ab (leI (B.1+k.1) M.1) (aa (wU j.id) λF=>ab F (aa (wU j.part) λN=>ab N (aa (rW (j.bp,(0,9))) λO=>ab O (aa (rW (j.bO,(0,20))) λU=>ab U (aa (Ah j.aU) λY=>some Y) (some false)) (some false)) (some false)) (some false)) (some false)) (some false)) (some false)) (some false)) λ(F:Bool)=>some F
def wS:((List aT)×(List ak))->Option Bool:=λ(B,F)=>aa (aa (wP B) λM=>ab (!M) (some true) (some (ah 20000 (F.length:Int)))) λ(M:Bool)=>ab M (some false) (aa (wT B) λN=>aZ (aB (λj:(Int×(List (Int×Bool)))=>ab (ah j.1 (F.length:Int)) (aa (au F j.1) λk=>aa (ab (!(dG N k.av)) (some true) (ab (aq j.2 k.id false) (some true) (aa (au B (aq N k.av 0)) λG=>aa (Ag (G,k)) λO=>some (!O)))) λ(G:Bool)=>ab G (some (.inr (.inr false))) (ae (ai (j.1+1)) <|some (.inl ((j.1+1),(aM j.2 k.id true))))) (some (.inr (.inl ())))) (0,([]:List (Int×Bool)))) λ(j:Unit)=>some true)
def AW:(ak×(List (Int×aC)))->Option Bool:=λ(j,k)=>some (!(dG k j.part))
def FE:((List ak)×(List (Int×aC)))->Option Int:=λ(k,B)=>aZ (aB (λj:Int=>ab (ah j (k.length:Int)) (aa (au k j) λF=>aa (AW (F,B)) λG=>ab G (some (.inr (.inr j))) (ae (ai (j+1)) <|some (.inl (j+1)))) (some (.inr (.inl ())))) 0) λ(j:Unit)=>some (-1)
def AZ:((List ak)×(List (Int×aC)))->Option Bool:=λ(j,k)=>aa (FE (j,k)) λB=>some (leI 0 B)
def AY:(ak×(List (Int×aC)))->Option Bool:=λ(j,k)=>aa (nG j.aU) λB=>aa (nG (aq k j.part (⟨0,0,0,0,0,(⟨0,0⟩:bZ),(⟨0,0,0⟩:aV),(⟨0,0,0⟩:aV)⟩:aC)).low) λF=>aa (nG (aq k j.part (⟨0,0,0,0,0,(⟨0,0⟩:bZ),(⟨0,0,0⟩:aV),(⟨0,0,0⟩:aV)⟩:aC)).high) λG=>aa (iY (B,(F,G))) λM=>some (!M)
def FF:((List ak)×(List (Int×aC)))->Option Int:=λ(k,B)=>aZ (aB (λj:Int=>ab (ah j (k.length:Int)) (aa (au k j) λF=>aa (AY (F,B)) λG=>ab G (some (.inr (.inr j))) (ae (ai (j+1)) <|some (.inl (j+1)))) (some (.inr (.inl ())))) 0) λ(j:Unit)=>some (-1)
def A2:((List ak)×(List (Int×aC)))->Option Bool:=λ(j,k)=>aa (FF (j,k)) λB=>some (leI 0 B)
def w9:((List aC)×(List ak))->Option Int:=λ(B,F)=>aa (aB (λj:(Int×(List (Int×aC)))=>ab (ah j.1 (B.length:Int)) (aa (aa (au B j.1) λk=>ab (aF k.of 0) (some (aM j.2 k.id k)) (some j.2)) λ(k:(List (Int×aC)))=>ae (ai (j.1+1)) <|some (.inl ((j.1+1),k))) (some (.inr j.2))) (0,([]:List (Int×aC)))) λ(j:(List (Int×aC)))=>aa (AZ (F,j)) λk=>ab k (some 22) (aa (A2 (F,j)) λG=>ab G (some 20) (some 0))
def FB:((List ak)×(List ak))->Option Bool:=λ(k,B)=>ab (!(aF (k.length:Int) (B.length:Int))) (some false) (aZ (aB (λj:Int=>ab (ah j (k.length:Int)) (aa (au k j) λF=>aa (au B j) λG=>ab (!(Iu F G)) (some (.inr (.inr false))) (ae (ai (j+1)) <|some (.inl (j+1)))) (some (.inr (.inl ())))) 0) λ(j:Unit)=>some true)
def Fw:aC->Option Int:=λ(j)=>some j.id
def Fv:(aC×(Unit×Int))->Option Bool:=λ(j,F,k)=>aa (Fw j) λB=>some (aF B k)
def A9:((List aC)×(Unit×Int))->Option Int:=λ(k,B)=>aZ (aB (λj:Int=>ab (ah j (k.length:Int)) (aa (au k j) λF=>aa (Fv (F,(B.1,B.2))) λG=>ab G (some (.inr (.inr j))) (ae (ai (j+1)) <|some (.inl (j+1)))) (some (.inr (.inl ())))) 0) λ(j:Unit)=>some (-1)
def AT:((List aC)×(Int×Unit))->Option (Int×Bool):=λ(k,B,F)=>aa (A9 (k,(F,B))) λj=>some ((max j 0),(leI 0 j))
def AV:(bI×aC)->Option (bI×(Int×aC)):=λ(k,j)=>aa (ab (aF j.of 0) (some j.id) (some j.of)) λ(B:Int)=>some (k,(B,j))
def FN:(aC×Int)->Option Bool:=λ(j,k)=>some (aF j.id k)
def Ba:((List aC)×Int)->Option Int:=λ(k,B)=>aZ (aB (λj:Int=>ab (ah j (k.length:Int)) (aa (au k j) λF=>aa (FN (F,B)) λG=>ab G (some (.inr (.inr j))) (ae (ai (j+1)) <|some (.inl (j+1)))) (some (.inr (.inl ())))) 0) λ(j:Unit)=>some (-1)
def uD:(bI×Int)->Option (nW×Bool):=λ(j,B)=>aa (Ba (j.parts,B)) λk=>ab (ah k 0) (some ((⟨(⟨0,0,0,0,0,(⟨0,0⟩:bZ),(⟨0,0,0⟩:aV),(⟨0,0,0⟩:aV)⟩:aC)⟩:nW),false)) (aa (au j.parts k) λF=>some ((⟨F⟩:nW),true))
def ui:(Int×Int)->Option Bool:=λ(k,j)=>aa (ae (ai (j8 j)) <|ab (leI (j8 j) k) (some (leI k j)) (some false)) λ(B:Bool)=>some B
def wN:aV->Option Int:=λ(j)=>aa (mC j) λk=>some k.1
def uj:aC->Option Bool:=λ(j)=>aa (uk j.shift) λG=>aa (ab (aF G.2 0) (aa (ui (j.shift.steps,21)) λB=>ab B (aa (ui (j.shift.cw,36)) λk=>ab k (aa (ui (G.1,12)) λF=>some F) (some false)) (some false)) (some false)) λ(B:Bool)=>aa (ab B (aa (iI j.low) λk=>ab k (aa (iI j.high) λF=>ab F (aa (wN j.low) λM=>aa (wN j.high) λN=>some (leI M N)) (some false)) (some false)) (some false)) λ(k:Bool)=>some k
def rV:Int->Option Bool:=λ(j)=>aa (ab (leI (-7) j) (some (leI j 7)) (some false)) λ(k:Bool)=>some k
def um:(Int×bZ)->Option (Int×(bZ×Int)):=λ(k,F)=>aa (uk F) λB=>aa (ab (!(aF B.2 0)) (some true) (aa (rV k) λG=>some (!G))) λ(G:Bool)=>ab G (some (0,((⟨0,0⟩:bZ),1))) (ae (ai (B.1+k)) <|aa (ab (ah 0 (B.1+k)) (aa (aB (λj:(Int×Int)=>aa (rV j.2) λM=>ab (!M) (ae (ai (1*12)) <|ae (ai (j.2-(1*12))) <|ae (ai (j.1+1)) <|some (.inl ((j.1+1),(j.2-(1*12))))) (some (.inr (j.1,j.2)))) (F.steps,(B.1+k))) λ(j:(Int×Int))=>some (j.1,j.2)) (aa (aB (λj:(Int×Int)=>aa (rV j.2) λM=>ab (!M) (ae (ai ((-1)*12)) <|ae (ai (j.2-((-1)*12))) <|ae (ai (j.1+(-1))) <|some (.inl ((j.1+(-1)),(j.2-((-1)*12))))) (some (.inr (j.1,j.2)))) (F.steps,(B.1+k))) λ(j:(Int×Int))=>some (j.1,j.2))) λ(j:(Int×Int))=>some (j.2,((⟨j.1,F.cw⟩:bZ),0)))
def Fh:aV->Option Int:=λ(j)=>ae (ai (7*j.bm)) <|ae (ai ((7*j.bm)+j.step)) <|some ((7*j.bm)+j.step)
def Aj:(Int×Int)->Option (Int×Int):=λ(k,j)=>ae (!(aF j 0)) <|ae (ai (Int.tdiv k j)) <|ae (!(aF j 0)) <|ab (ah (Int.tmod k j) 0) (ae (ai ((Int.tdiv k j)-1)) <|ae (ai ((Int.tmod k j)+j)) <|some (((Int.tdiv k j)-1),((Int.tmod k j)+j))) (some ((Int.tdiv k j),(Int.tmod k j)))
def wV:(aV×bZ)->Option (aV×Int):=λ(B,j)=>aa (aa (iI B) λN=>ab (!N) (some true) (aa (rX j) λG=>some (!G))) λ(N:Bool)=>ab N (some ((⟨0,0,0⟩:aV),1)) (ab (Is j (⟨0,0⟩:bZ)) (some (B,0)) (aa (Fh B) λG=>ae (ai (G+j.steps)) <|aa (Aj ((G+j.steps),7)) λk=>aa (qj B) λF=>ae (ai (F+j.cw)) <|aa (qj (⟨k.2,0,k.1⟩:aV)) λM=>ae (ai ((F+j.cw)-M)) <|aa (iI (⟨k.2,((F+j.cw)-M),k.1⟩:aV)) λO=>ab (!O) (some ((⟨0,0,0⟩:aV),3)) (some ((⟨k.2,((F+j.cw)-M),k.1⟩:aV),0))))
def Ab:(aC×(Int×aV))->Option (aV×Int):=λ(F,M,G)=>aa (aa (aa (uj F) λj=>ab (!j) (some (false,(0,0))) (aa (oS F.shift) λk=>aa (um (M,k.1)) λB=>aa (ab (!(aF k.2 0)) (some true) (some (!(aF B.2.2 0)))) λ(N:Bool)=>ab N (some (false,(0,0))) (some (true,(B.2.1.steps,B.2.1.cw))))) λ(j:(Bool×(Int×Int)))=>ab (!j.1) (some (true,(j.2.1,j.2.2))) (aa (iI G) λk=>some ((!k),(j.2.1,j.2.2)))) λ(j:(Bool×(Int×Int)))=>ab j.1 (some ((⟨0,0,0⟩:aV),1)) (aa (wV (G,(⟨j.2.1,j.2.2⟩:bZ))) λk=>some (k.1,k.2))
def xl:(nW×(aT×ak))->Option aw:=λ(k,B,j)=>aa (Ab (k.part,(B.key,j.aU))) λF=>some (⟨j.id,j.bp,j.bO,j.start,j.length,F.1⟩:aw)
def z8:(aC×Int)->Option (Int×Int):=λ(j,G)=>aa (aa (uj j) λk=>ab (!k) (some (false,0)) (aa (oS j.shift) λB=>aa (um (G,B.1)) λF=>aa (ab (!(aF B.2 0)) (some true) (some (!(aF F.2.2 0)))) λ(M:Bool)=>ab M (some (false,0)) (some (true,F.1)))) λ(k:(Bool×Int))=>ab (!k.1) (some (0,1)) (some (k.2,0))
def xk:(nW×(aT×(List aw)))->Option aR:=λ(k,j,B)=>aa (z8 (k.part,j.key)) λF=>some (⟨j.id,F.1,j.length,B⟩:aR)
def ql:Rat->Option Int:=λ(j)=>aa (aa (mE j) λk=>ab (!k) (some true) (ab (ah j.n 0) (some true) (ae (!(aF j.d 0)) <|some (!(aF (Int.tmod 1680 j.d) 0))))) λ(k:Bool)=>ab k (some (-1)) (ae (!(aF j.d 0)) <|ae (ai (Int.tdiv 1680 j.d)) <|ae (ai (j.n*(Int.tdiv 1680 j.d))) <|some (j.n*(Int.tdiv 1680 j.d)))
def xj:aw->Option Int:=λ(j)=>aa (mC j.aU) λk=>some k.1
def zU:Int->Option Bool:=λ(j)=>some (!(aF j j))
def qh:(Int×Int)->Option Int:=λ(j,k)=>aa (zU j) λF=>aa (zU k) λB=>ab F (ab B (some 0) (some (-1))) (ab B (some 1) (ab (ah j k) (some (-1)) (ab (ah k j) (some 1) (some 0))))
def rT:(List Int)->Option Int:=λ(k)=>aZ (aB (λj:Int=>ab (ah j (k.length:Int)) (aa (au k j) λB=>ab (!(aF B 0)) (some (.inr (.inr B))) (ae (ai (j+1)) <|some (.inl (j+1)))) (some (.inr (.inl ())))) 0) λ(j:Unit)=>some 0
def xi:(aw×aw)->Option Int:=λ(j,k)=>aa (ql j.start) λF=>aa (ql k.start) λG=>aa (qh (F,G)) λM=>aa (qh (j.bp,k.bp)) λN=>aa (xj j) λO=>aa (xj k) λU=>aa (qh (O,U)) λY=>aa (qh (j.id,k.id)) λZ=>aa (rT (M::(N::(Y::(Z::([]:List Int)))))) λB=>some B
def Bb:((List aw)×Unit)->Option Bool:=λ(k,M)=>aZ (ae (ai ((k.length:Int)-1)) <|aB (λj:Int=>ab (ah 0 j) (aa (au k j) λB=>ae (ai (j-1)) <|aa (au k (j-1)) λF=>aa (xi (B,F)) λG=>ab (ah G 0) (some (.inr (.inr false))) (ae (ai (j-1)) <|some (.inl (j-1)))) (some (.inr (.inl ())))) ((k.length:Int)-1)) λ(j:Unit)=>some true
def xm:(Int×(Int×Int))->Option Bool:=λ(j,k,B)=>aa (ab (leI k j) (some (leI j B)) (some false)) λ(F:Bool)=>some F
def xh:(aw×Rat)->Option Bool:=λ(j,M)=>aa (aa (xm (j.id,(1,1000000))) λF=>ab F (aa (xm (j.bp,(0,9))) λk=>ab k (aa (xm (j.bO,(0,20))) λB=>some B) (some false)) (some false)) λ(F:Bool)=>aa (ql j.start) λk=>aa (ql j.length) λB=>aa (ab F (aa (iI j.aU) λG=>ab G (ab (leI 0 k) (ab (ah 0 B) (ae (ai (k+B)) <|aa (ql M) λN=>some (leI (k+B) N)) (some false)) (some false)) (some false)) (some false)) λ(G:Bool)=>some G
def Aa:(aC×(Int×aV))->Option (aV×Int):=λ(F,M,G)=>aa (aa (aa (uj F) λj=>ab (!j) (some (false,(0,0))) (aa (oS F.shift) λk=>aa (um (M,k.1)) λB=>aa (ab (!(aF k.2 0)) (some true) (some (!(aF B.2.2 0)))) λ(N:Bool)=>ab N (some (false,(0,0))) (some (true,(B.2.1.steps,B.2.1.cw))))) λ(j:(Bool×(Int×Int)))=>ab (!j.1) (some (true,(j.2.1,j.2.2))) (aa (iI G) λk=>some ((!k),(j.2.1,j.2.2)))) λ(j:(Bool×(Int×Int)))=>ab j.1 (some ((⟨0,0,0⟩:aV),1)) (aa (oS (⟨j.2.1,j.2.2⟩:bZ)) λk=>ab (!(aF k.2 0)) (some ((⟨0,0,0⟩:aV),k.2)) (aa (wV (G,k.1)) λB=>some (B.1,B.2)))
def Fm:(Rat×Rat)->Option eQ:=λ(j,k)=>ae (ai (j.n*k.d)) <|ae (ai (k.n*j.d)) <|ae (ai ((j.n*k.d)+(k.n*j.d))) <|ae (ai (j.d*k.d)) <|some (⟨((j.n*k.d)+(k.n*j.d)),(j.d*k.d)⟩:eQ)
def AG:eQ->Option (Rat×Int):=λ(B)=>aa (uy B) λj=>aa (aa (oV j.n) λk=>ab (ah 1000000000 k) (some true) (some (ah 1000000 j.d))) λ(k:Bool)=>ab k (some ((⟨0,0⟩:Rat),3)) (some ((⟨j.n,j.d⟩:Rat),0))
def Fo:(Rat×(Rat×(Rat×Rat)))->Option (Rat×Int):=λ(G,M,j)=>aa (aa (mE G) λk=>ab (!k) (some true) (aa (mE M) λB=>some (!B))) λ(k:Bool)=>ab k (some ((⟨0,0⟩:Rat),1)) (aa (Fm (j.1,j.2)) λB=>aa (AG B) λF=>some (F.1,F.2))
def fB:(Rat×Rat)->Option (Rat×Int):=λ(j,k)=>aa (Fo (j,(k,(j,k)))) λB=>some (B.1,B.2)
def L4:(List (Int×Bool))->Option (List (Int×Bool)):=λ(j)=>some j
def L3:(aR×Int)->Option Int:=λ(k,j)=>some j
def wL:(aR×Int)->Option aR:=λ(B,N)=>aa (L3 (B,N)) λM=>aa (oP (List.isEmpty B.aK) (some ([]:List aw)) (ae (decide ((List.append ([]:List aw) B.aK).length*80<=140737488355328/\(List.append ([]:List aw) B.aK).length<=9223372036854775807)) <|some (List.append ([]:List aw) B.aK))) λ(G:(List aw))=>aa (aa (aZ (aB (λk:Int=>ab (ah k (G.length:Int)) (ae ((leI 0 k)&&(ah k (G.length:Int))) <|aa (au G k) λj=>aa (ab (aF j.bp 0) (some true) (some (aF j.bp M))) λ(F:Bool)=>ab (!F) (some (.inr (.inr k))) (ae (ai (k+1)) <|some (.inl (k+1)))) (some (.inr (.inl ())))) 0) λ(k:Unit)=>some (-1)) λ(k:Int)=>ab (aF k (-1)) (some G) (aa (ae (ai (k+1)) <|aB (λj:(Int×(Int×(List aw)))=>ab (ah j.2.1 (j.2.2.length:Int)) (aa (ae ((leI 0 j.2.1)&&(ah j.2.1 (j.2.2.length:Int))) <|aa (au j.2.2 j.2.1) λF=>aa (ab (aF F.bp 0) (some true) (some (aF F.bp M))) λ(O:Bool)=>ab (!(!O)) (ae ((leI 0 j.1)&&(ah j.1 (j.2.2.length:Int))) <|aa (au j.2.2 j.1) λU=>ae (ai (j.1+1)) <|some ((j.1+1),(List.set j.2.2 (Int.toNat j.1) F))) (some (j.1,j.2.2))) λ(F:(Int×(List aw)))=>ae (ai (j.2.1+1)) <|some (.inl (F.1,((j.2.1+1),F.2)))) (some (.inr (j.1,j.2.2)))) (k,((k+1),G))) λ(j:(Int×(List aw)))=>ae ((leI 0 j.1)&&(leI j.1 (j.2.length:Int))) <|ae ((leI 0 j.1)&&(leI j.1 ((List.append (List.take (Int.toNat j.1) j.2) (List.replicate (Int.toNat ((j.2.length:Int)-j.1)) ((⟨0,0,0,(⟨0,0⟩:Rat),(⟨0,0⟩:Rat),(⟨0,0,0⟩:aV)⟩:aw):aw))).length:Int))) <|some (List.take (Int.toNat j.1) (List.append (List.take (Int.toNat j.1) j.2) (List.replicate (Int.toNat ((j.2.length:Int)-j.1)) ((⟨0,0,0,(⟨0,0⟩:Rat),(⟨0,0⟩:Rat),(⟨0,0,0⟩:aV)⟩:aw):aw)))))) λ(k:(List aw))=>some (⟨B.av,B.key,B.length,k⟩:aR)
def E7:((List aR)×Int)->Option (List aR):=λ(B,F)=>aa (aB (λj:(Int×(List aR))=>ab (ah j.1 (B.length:Int)) (aa (au B j.1) λG=>aa (wL (G,F)) λk=>ae (decide ((List.append j.2 (k::([]:List aR))).length*56<=140737488355328/\(List.append j.2 (k::([]:List aR))).length<=9223372036854775807)) <|ae (ai (j.1+1)) <|some (.inl ((j.1+1),(List.append j.2 (k::([]:List aR)))))) (some (.inr j.2))) (0,([]:List aR))) λ(j:(List aR))=>some j
def Fa:(aJ×Int)->Option aJ:=λ(j,k)=>aa (E7 (j.bu,k)) λB=>some (⟨j.part,B⟩:aJ)
def wI:(aJ×Int)->Option (aJ×Int):=λ(k,j)=>aa (aa (rU k) λB=>ab (!B) (some true) (ab (ah j 0) (some true) (some (ah 9 j)))) λ(B:Bool)=>ab B (some ((⟨0,([]:List aR)⟩:aJ),1)) (aa (Fa (k,j)) λF=>some (F,0))
def E4:aJ->Option Bool:=λ(j)=>aa (rU j) λk=>some (!k)
def FI:((List aJ)×Unit)->Option Int:=λ(k,G)=>aZ (aB (λj:Int=>ab (ah j (k.length:Int)) (aa (au k j) λB=>aa (E4 B) λF=>ab F (some (.inr (.inr j))) (ae (ai (j+1)) <|some (.inl (j+1)))) (some (.inr (.inl ())))) 0) λ(j:Unit)=>some (-1)
def A5:((List aJ)×Unit)->Option Bool:=λ(j,k)=>aa (FI (j,k)) λB=>some (leI 0 B)
def zZ:(aR×aR)->Option Bool:=λ(j,k)=>aa (ab (aF j.av k.av) (ab (aF j.key k.key) (some (CA j.length k.length)) (some false)) (some false)) λ(B:Bool)=>some B
def FA:((List aR)×((List aR)×Unit))->Option Bool:=λ(k,B,M)=>ab (!(aF (k.length:Int) (B.length:Int))) (some false) (aZ (aB (λj:Int=>ab (ah j (k.length:Int)) (aa (au k j) λF=>aa (au B j) λG=>aa (zZ (F,G)) λN=>ab (!N) (some (.inr (.inr false))) (ae (ai (j+1)) <|some (.inl (j+1)))) (some (.inr (.inl ())))) 0) λ(j:Unit)=>some true)
def zY:(aJ×aJ)->Option Bool:=λ(k,B)=>aa (ab (aF k.part B.part) (aa (FA (k.bu,(B.bu,()))) λj=>some j) (some false)) λ(j:Bool)=>some j
def E5:(aJ×(List aJ))->Option Bool:=λ(j,k)=>aa (au k 0) λB=>aa (zY (B,j)) λF=>some (!F)
def FJ:((List aJ)×(List aJ))->Option Int:=λ(k,B)=>aZ (aB (λj:Int=>ab (ah j (k.length:Int)) (aa (au k j) λF=>aa (E5 (F,B)) λG=>ab G (some (.inr (.inr j))) (ae (ai (j+1)) <|some (.inl (j+1)))) (some (.inr (.inl ())))) 0) λ(j:Unit)=>some (-1)
def Fz:((List aJ)×(List aJ))->Option Bool:=λ(j,k)=>aa (FJ (j,k)) λB=>some (leI 0 B)
def Ff:(List (Int×aw))->Option (List (Int×aw)):=λ(j)=>some j
def oU:((List az)×(List az))->Option Bool:=λ(k,B)=>ab (!(aF (k.length:Int) (B.length:Int))) (some false) (aZ (aB (λj:Int=>ab (ah j (k.length:Int)) (aa (au k j) λF=>aa (au B j) λG=>ab (!(Iw F G)) (some (.inr (.inr false))) (ae (ai (j+1)) <|some (.inl (j+1)))) (some (.inr (.inl ())))) 0) λ(j:Unit)=>some true)
def Aw:Form->Option Bool:=λ(j)=>aa (ab (leI j.bars 60) (ab (leI (j.aY.length:Int) 110) (ab (leI (j.bE.length:Int) 60) (some (leI (j.bj.length:Int) 110)) (some false)) (some false)) (some false)) λ(k:Bool)=>some k
def AE:(eo×ej)->Option Bool:=λ(j,B)=>aa (ab (ah 12 (j.aI.bars.length:Int)) (some true) (ab (ah 8 (j.aI.parts.length:Int)) (some true) (ab (ah 30 (j.aI.aK.length:Int)) (some true) (aa (Aw B.form) λF=>ab (!F) (some true) (some (ah 40 (B.bF.length:Int))))))) λ(F:Bool)=>ab F (some false) (aZ (aB (λk:Int=>ab (ah k (j.aI.parts.length:Int)) (aa (au j.aI.parts k) λG=>ab (ah 6 G.eA) (some (.inr (.inr false))) (ae (ai (k+1)) <|some (.inl (k+1)))) (some (.inr (.inl ())))) 0) λ(k:Unit)=>some true)
def Ao:(Int×Int)->Option Int:=λ(k,B)=>aa (aB (λj:(Int×Int)=>ab (!(aF j.2 0)) (ae (!(aF j.2 0)) <|some (.inl (j.2,(Int.tmod j.1 j.2)))) (some (.inr j.1))) (k,B)) λ(j:Int)=>some j
def qk:Rat->Option Int:=λ(j)=>aa (ab (ah j.d 1) (some true) (ae (!(aF j.d 0)) <|ab (!(aF (Int.tmod 1680 j.d) 0)) (some true) (ab (ah j.n 0) (some true) (ab (ah 1000000000 j.n) (some true) (aa (Ao (j.n,j.d)) λk=>some (!(aF k 1))))))) λ(k:Bool)=>ab k (some (-1)) (ae (!(aF j.d 0)) <|ae (ai (Int.tdiv 1680 j.d)) <|ae (ai (j.n*(Int.tdiv 1680 j.d))) <|some (j.n*(Int.tdiv 1680 j.d)))
def wW:(List aT)->Option Bool:=λ(k)=>aa (ab (ah (k.length:Int) 1) (some true) (some (ah 4000 (k.length:Int)))) λ(U:Bool)=>ab U (some false) (aZ (aB (λj:Int=>ab (ah j (k.length:Int)) (aZ (aa (au k j) λN=>aa (qk N.length) λO=>aa (aa (au k j) λF=>ab (ah F.id 1) (some true) (aa (au k j) λB=>ab (ah 1000000 B.id) (some true) (ab (ah O 1) (some true) (ab (ah 40320 O) (some true) (aa (au k j) λG=>ab (ah G.key (-7)) (some true) (aa (au k j) λM=>some (ah 7 M.key))))))) λ(F:Bool)=>ab F (some (.inr (.inr (.inr false)))) (aB (λB:Int=>ab (ah B j) (aa (au k B) λG=>aa (au k j) λM=>ab (aF G.id M.id) (some (.inr (.inr (.inr (.inr false))))) (ae (ai (B+1)) <|some (.inl (B+1)))) (some (.inr (.inl ())))) 0)) λ(N:Unit)=>ae (ai (j+1)) <|some (.inl (j+1))) (some (.inr (.inl ())))) 0) λ(j:Unit)=>some true)
def lS:(Int×(Int×Int))->Option Bool:=λ(j,k,B)=>aa (ab (leI k j) (some (leI j B)) (some false)) λ(F:Bool)=>some F
def An:(Int×(Int×Int))->Option Bool:=λ(j,k,B)=>aa (ab (leI k j) (some (leI j B)) (some false)) λ(F:Bool)=>some F
def Fj:bZ->Option Bool:=λ(k)=>aa (aa (An (k.steps,((-70),70))) λj=>ab j (aa (An (k.cw,((-120),120))) λB=>some B) (some false)) λ(j:Bool)=>some j
def Am:bZ->Option (Int×Int):=λ(j)=>aa (Fj j) λk=>ab (!k) (some (0,1)) (ae (ai (7*j.cw)) <|ae (ai (12*j.steps)) <|ae (ai ((7*j.cw)-(12*j.steps))) <|some (((7*j.cw)-(12*j.steps)),0))
def Av:bZ->Option Bool:=λ(j)=>aa (Am j) λB=>aa (ab (aF B.2 0) (aa (lS (j.steps,((-21),21))) λk=>ab k (aa (lS (j.cw,((-36),36))) λF=>ab F (aa (lS (B.1,((-12),12))) λG=>some G) (some false)) (some false)) (some false)) λ(k:Bool)=>some k
def rZ:(Int×(Int×Int))->Option Bool:=λ(j,k,B)=>aa (ab (leI k j) (some (leI j B)) (some false)) λ(F:Bool)=>some F
def uo:aV->Option Bool:=λ(j)=>aa (rZ (j.step,(0,6))) λB=>aa (rZ (j.alter,((-4),4))) λF=>aa (ab B (ab F (aa (rZ (j.bm,((-8),20))) λk=>some k) (some false)) (some false)) λ(k:Bool)=>some k
def Fi:Int->Option Int:=λ(j)=>ae (ai (2*j)) <|aa (ab (ah 2 j) (ae (ai ((2*j)-1)) <|some ((2*j)-1)) (some (2*j))) λ(k:Int)=>some k
def mD:aV->Option Int:=λ(j)=>ae (ai (12*j.bm)) <|aa (Fi j.step) λk=>ae (ai ((12*j.bm)+k)) <|ae (ai (((12*j.bm)+k)+j.alter)) <|some (((12*j.bm)+k)+j.alter)
def As:aC->Option Bool:=λ(j)=>aa (lS (j.id,(1,1000000))) λG=>aa (lS (j.nQ,(0,99))) λM=>aa (lS (j.of,(0,1000000))) λN=>aa (lS (j.bm,((-2),2))) λO=>aa (lS (j.eA,(1,40))) λU=>aa (Av j.shift) λY=>aa (uo j.low) λZ=>aa (uo j.high) λad=>aa (ab (!G) (some true) (ab (!M) (some true) (ab (!N) (some true) (ab (!O) (some true) (ab (!U) (some true) (ab (!Y) (some true) (ab (!Z) (some true) (some (!ad))))))))) λ(F:Bool)=>ab F (some false) (aa (ab (!(aF j.of j.id)) (ab (!(aF j.of 0)) (aa (mD j.low) λk=>aa (mD j.high) λB=>some (leI k B)) (ab (aF j.bm 0) (aa (mD j.low) λk=>aa (mD j.high) λB=>some (leI k B)) (some false))) (some false)) λ(k:Bool)=>some k)
def uv:((List aC)×Int)->Option Int:=λ(k,B)=>aZ (aB (λj:Int=>ab (ah j (k.length:Int)) (aa (au k j) λF=>ab (aF F.id B) (some (.inr (.inr j))) (ae (ai (j+1)) <|some (.inl (j+1)))) (some (.inr (.inl ())))) 0) λ(j:Unit)=>some (-1)
def Au:(List aC)->Option Bool:=λ(j)=>aa (ab (ah (j.length:Int) 1) (some true) (some (ah 60 (j.length:Int)))) λ(N:Bool)=>ab N (some false) (aZ (aB (λk:Int=>ab (ah k (j.length:Int)) (aZ (aa (au j k) λG=>aa (As G) λY=>aa (ab (!Y) (some true) (aa (au j k) λB=>aa (uv (j,B.id)) λF=>some (!(aF F k)))) λ(B:Bool)=>ab B (some (.inr (.inr (.inr false)))) (aa (au j k) λF=>ab (aF F.of 0) (some (.inl ())) (aa (au j k) λO=>aa (uv (j,O.of)) λM=>ab (ah M 0) (some (.inr (.inr (.inr false)))) (aa (au j M) λU=>ab (!(aF U.of 0)) (some (.inr (.inr (.inr false)))) (some (.inl ())))))) λ(G:Unit)=>ae (ai (k+1)) <|some (.inl (k+1))) (some (.inr (.inl ())))) 0) λ(k:Unit)=>some true)
def wX:((List aT)×Int)->Option Int:=λ(k,B)=>aZ (aB (λj:Int=>ab (ah j (k.length:Int)) (aa (au k j) λF=>ab (aF F.id B) (some (.inr (.inr j))) (ae (ai (j+1)) <|some (.inl (j+1)))) (some (.inr (.inl ())))) 0) λ(j:Unit)=>some (-1)
def Al:aV->Option Bool:=λ(j)=>aa (uo j) λB=>aa (ab B (aa (rZ (j.alter,((-2),2))) λk=>ab k (aa (rZ (j.bm,(0,9))) λF=>some F) (some false)) (some false)) λ(k:Bool)=>some k
def uq:(Int×(Int×Int))->Option Bool:=λ(j,k,B)=>aa (ab (leI k j) (some (leI j B)) (some false)) λ(F:Bool)=>some F
def Aq:((List aT)×ak)->Option Bool:=λ(G,j)=>aa (wX (G,j.av)) λM=>aa (Al j.aU) λU=>aa (ab (ah M 0) (some true) (ab (!U) (some true) (aa (uq (j.id,(1,1000000))) λN=>ab (!N) (some true) (aa (uq (j.part,(1,1000000))) λk=>ab (!k) (some true) (aa (uq (j.bp,(0,9))) λB=>ab (!B) (some true) (aa (uq (j.bO,(0,20))) λF=>some (!F))))))) λ(N:Bool)=>ab N (some false) (aa (qk j.start) λk=>aa (qk j.length) λB=>aa (ab (leI 0 k) (ab (ah 0 B) (ae (ai (k+B)) <|aa (au G M) λF=>aa (qk F.length) λO=>some (leI (k+B) O)) (some false)) (some false)) λ(F:Bool)=>some F)
def Ar:((List aT)×(List ak))->Option Bool:=λ(F,k)=>aa (wW F) λU=>aa (ab (!U) (some true) (some (ah 20000 (k.length:Int)))) λ(M:Bool)=>ab M (some false) (aZ (aB (λj:Int=>ab (ah j (k.length:Int)) (aZ (aa (au k j) λG=>aa (Aq (F,G)) λY=>ab (!Y) (some (.inr (.inr (.inr false)))) (aB (λB:Int=>ab (ah B j) (aa (au k B) λN=>aa (au k j) λO=>ab (aF N.id O.id) (some (.inr (.inr (.inr (.inr false))))) (ae (ai (B+1)) <|some (.inl (B+1)))) (some (.inr (.inl ())))) 0)) λ(G:Unit)=>ae (ai (j+1)) <|some (.inl (j+1))) (some (.inr (.inl ())))) 0) λ(j:Unit)=>some true)
def ur:((List aC)×ak)->Option Int:=λ(k,B)=>aa (uv (k,B.part)) λj=>ab (ah j 0) (some (-1)) (aa (au k j) λF=>ab (!(aF F.of 0)) (some (-1)) (some j))
def Fk:(aC×aV)->Option Bool:=λ(j,k)=>aa (mD k) λB=>aa (mD j.low) λF=>aa (mD j.high) λG=>aa (lS (B,(F,G))) λM=>some M
def w3:((List aC)×(List ak))->Option Int:=λ(F,k)=>aZ (aB (λB:Int=>ab (ah B (k.length:Int)) (aa (au k B) λj=>aa (ur (F,j)) λG=>ab (ah G 0) (some (.inr (.inr 22))) (ae (ai (B+1)) <|some (.inl (B+1)))) (some (.inr (.inl ())))) 0) λ(B:Unit)=>aZ (aB (λj:Int=>ab (ah j (k.length:Int)) (aa (au k j) λG=>aa (ur (F,G)) λM=>aa (au F M) λN=>aa (au k j) λO=>aa (Fk (N,O.aU)) λU=>ab (!U) (some (.inr (.inr 20))) (ae (ai (j+1)) <|some (.inl (j+1)))) (some (.inr (.inl ())))) 0) λ(j:Unit)=>some 0
def wY:((List aT)×ak)->Option (List Int):=λ(k,j)=>aa (wX (k,j.av)) λB=>aa (qk j.start) λF=>aa (mD j.aU) λG=>some (B::(j.part::(F::(j.bp::(G::(j.id::([]:List Int)))))))
def Ap:((List aT)×(ak×ak))->Option Bool:=λ(B,G,M)=>aa (wY (B,G)) λk=>aa (wY (B,M)) λF=>aZ (aB (λj:Int=>ab (ah j (k.length:Int)) (aa (au k j) λN=>aa (au F j) λO=>ab (!(aF N O)) (aa (au k j) λU=>aa (au F j) λY=>some (.inr (.inr (ah U Y)))) (ae (ai (j+1)) <|some (.inl (j+1)))) (some (.inr (.inl ())))) 0) λ(j:Unit)=>some false
def wZ:bI->Option Bool:=λ(j)=>aa (wW j.bars) λN=>aa (Au j.parts) λO=>aa (aa (lS (j.version,(1,1000000))) λB=>ab (!B) (some true) (ab (!N) (some true) (some (!O)))) λ(B:Bool)=>ab B (some false) (aa (Ar (j.bars,j.aK)) λU=>ab (!U) (some false) (aa (w3 (j.parts,j.aK)) λF=>ab (!(aF F 0)) (some false) (aZ (aB (λk:Int=>ab (ah k (j.aK.length:Int)) (ae (ai (k-1)) <|aa (au j.aK (k-1)) λG=>aa (au j.aK k) λM=>aa (Ap (j.bars,(G,M))) λY=>ab (!Y) (some (.inr (.inr false))) (ae (ai (k+1)) <|some (.inl (k+1)))) (some (.inr (.inl ())))) 1) λ(k:Unit)=>some true)))
def AB:((List bL)×Int)->Option Bool:=λ(k,G)=>ab (ah 100 (k.length:Int)) (some false) (aZ (aB (λj:(Int×Int)=>ab (ah j.2 (k.length:Int)) (aa (aa (au k j.2) λB=>ab (ah B.from_ j.1) (some true) (aa (au k j.2) λF=>aa (au k j.2) λM=>ab (leI M.aQ F.from_) (some true) (aa (au k j.2) λN=>ab (ah G N.aQ) (some true) (aa (au k j.2) λO=>ab (ah O.times 1) (some true) (aa (au k j.2) λU=>some (ah 9 U.times)))))) λ(B:Bool)=>ab B (some (.inr (.inr false))) (aa (au k j.2) λF=>ae (ai (j.2+1)) <|some (.inl (F.aQ,(j.2+1))))) (some (.inr (.inl ())))) (0,0)) λ(j:Unit)=>some true)
def Az:((List bL)×(Int×Int))->Option Bool:=λ(k,F,G)=>aZ (aB (λj:Int=>ab (ah j (k.length:Int)) (aa (aa (au k j) λB=>ab (leI B.from_ F) (aa (au k j) λM=>some (leI G M.aQ)) (some false)) λ(B:Bool)=>ab B (some (.inr (.inr true))) (ae (ai (j+1)) <|some (.inl (j+1)))) (some (.inr (.inl ())))) 0) λ(j:Unit)=>some false
def Ay:Form->Option Bool:=λ(B)=>ab (ah 100 (B.bE.length:Int)) (some false) (aZ (aB (λk:(Int×Int)=>ab (ah k.2 (B.bE.length:Int)) (aa (au B.bE k.2) λj=>aa (ab (ah j.from_ k.1) (some true) (ab (leI j.aQ j.from_) (some true) (aa (Az (B.aY,(j.from_,j.aQ))) λF=>ab (!F) (some true) (ab (ah j.pass 1) (some true) (some (ah 9 j.pass)))))) λ(F:Bool)=>ab F (some (.inr (.inr false))) (ae (ai (k.2+1)) <|some (.inl (j.aQ,(k.2+1))))) (some (.inr (.inl ())))) (0,0)) λ(k:Unit)=>some true)
def ux:((List bL)×Int)->Option Bool:=λ(k,F)=>aZ (aB (λj:Int=>ab (ah j (k.length:Int)) (aa (aa (au k j) λB=>ab (ah B.from_ F) (aa (au k j) λG=>some (ah F G.aQ)) (some false)) λ(B:Bool)=>ab B (some (.inr (.inr true))) (ae (ai (j+1)) <|some (.inl (j+1)))) (some (.inr (.inl ())))) 0) λ(j:Unit)=>some false
def AA:Form->Option Bool:=λ(j)=>ab (Cz j.jump (⟨0,0,0⟩:im)) (some true) (aa (ab (ah j.jump.at_ 1) (some true) (ab (ah j.bars j.jump.at_) (some true) (ab (ah j.jump.to 0) (some true) (ab (leI j.jump.at_ j.jump.to) (some true) (ab (leI j.jump.dj j.jump.to) (some true) (some (ah j.bars j.jump.dj))))))) λ(B:Bool)=>ab B (some false) (aa (aa (ux (j.aY,j.jump.at_)) λk=>ab (!k) (aa (ux (j.aY,j.jump.to)) λF=>ab (!F) (aa (ux (j.aY,j.jump.dj)) λG=>some (!G)) (some false)) (some false)) λ(k:Bool)=>some k))
def w5:(Form×bK)->Option Bool:=λ(k,j)=>aa (ab (leI 0 j.from_) (ab (ah j.from_ j.aQ) (ab (leI j.aQ k.bars) (ab (leI 0 j.pass) (some (leI j.pass 20)) (some false)) (some false)) (some false)) (some false)) λ(B:Bool)=>some B
def w6:((List bK)×bK)->Option Int:=λ(k,B)=>aZ (aB (λj:Int=>ab (ah j (k.length:Int)) (aa (au k j) λF=>ab (Iq F B) (some (.inr (.inr j))) (ae (ai (j+1)) <|some (.inl (j+1)))) (some (.inr (.inl ())))) 0) λ(j:Unit)=>some (-1)
def uw:(Form×Int)->Option Int:=λ(k,B)=>aZ (aB (λj:Int=>ab (ah j (k.aY.length:Int)) (aa (au k.aY j) λF=>ab (aF F.from_ B) (some (.inr (.inr j))) (ae (ai (j+1)) <|some (.inl (j+1)))) (some (.inr (.inl ())))) 0) λ(j:Unit)=>some (-1)
def oT:(Form×(Int×Int))->Option Bool:=λ(B,F,G)=>aZ (aB (λj:Int=>ab (ah j (B.bE.length:Int)) (aa (au B.bE j) λk=>aa (ab (leI k.from_ F) (ab (ah F k.aQ) (some (!(aF k.pass G))) (some false)) (some false)) λ(M:Bool)=>ab M (some (.inr (.inr false))) (ae (ai (j+1)) <|some (.inl (j+1)))) (some (.inr (.inl ())))) 0) λ(j:Unit)=>some true
def w7:Form->Option (List Int):=λ(M)=>ab (aF M.jump.at_ 0) (aa (aB (λk:(Int×(List Int))=>ab (ah k.1 M.bars) (aa (uw (M,k.1)) λF=>ab (ah F 0) (ae (decide ((List.append k.2 (k.1::([]:List Int))).length*8<=140737488355328/\(List.append k.2 (k.1::([]:List Int))).length<=9223372036854775807)) <|ae (ai (k.1+1)) <|some (.inl ((k.1+1),(List.append k.2 (k.1::([]:List Int)))))) (aa (au M.aY F) λN=>aa (aB (λB:(Int×(List Int))=>ab (leI B.1 N.times) (aa (aB (λj:(Int×(List Int))=>ab (ah j.1 N.aQ) (aa (aa (oT (M,(j.1,B.1))) λG=>ab G (ae (decide ((List.append j.2 (j.1::([]:List Int))).length*8<=140737488355328/\(List.append j.2 (j.1::([]:List Int))).length<=9223372036854775807)) <|some (List.append j.2 (j.1::([]:List Int)))) (some j.2)) λ(G:(List Int))=>ae (ai (j.1+1)) <|some (.inl ((j.1+1),G))) (some (.inr j.2))) (N.from_,B.2)) λ(j:(List Int))=>ae (ai (B.1+1)) <|some (.inl ((B.1+1),j))) (some (.inr B.2))) (1,k.2)) λ(B:(List Int))=>some (.inl (N.aQ,B)))) (some (.inr k.2))) (0,([]:List Int))) λ(k:(List Int))=>some k) (aa (aB (λk:(Int×(List Int))=>ab (ah k.1 M.jump.at_) (aa (uw (M,k.1)) λF=>ab (ah F 0) (ae (decide ((List.append k.2 (k.1::([]:List Int))).length*8<=140737488355328/\(List.append k.2 (k.1::([]:List Int))).length<=9223372036854775807)) <|ae (ai (k.1+1)) <|some (.inl ((k.1+1),(List.append k.2 (k.1::([]:List Int)))))) (aa (au M.aY F) λN=>aa (aB (λB:(Int×(List Int))=>ab (leI B.1 N.times) (aa (aB (λj:(Int×(List Int))=>ab (ah j.1 N.aQ) (aa (aa (oT (M,(j.1,B.1))) λG=>ab G (ae (decide ((List.append j.2 (j.1::([]:List Int))).length*8<=140737488355328/\(List.append j.2 (j.1::([]:List Int))).length<=9223372036854775807)) <|some (List.append j.2 (j.1::([]:List Int)))) (some j.2)) λ(G:(List Int))=>ae (ai (j.1+1)) <|some (.inl ((j.1+1),G))) (some (.inr j.2))) (N.from_,B.2)) λ(j:(List Int))=>ae (ai (B.1+1)) <|some (.inl ((B.1+1),j))) (some (.inr B.2))) (1,k.2)) λ(B:(List Int))=>some (.inl (N.aQ,B)))) (some (.inr k.2))) (0,([]:List Int))) λ(k:(List Int))=>aa (aB (λF:(Int×(List Int))=>ab (ah F.1 M.jump.dj) (aa (uw (M,F.1)) λN=>ab (ah N 0) (ae (decide ((List.append F.2 (F.1::([]:List Int))).length*8<=140737488355328/\(List.append F.2 (F.1::([]:List Int))).length<=9223372036854775807)) <|ae (ai (F.1+1)) <|some (.inl ((F.1+1),(List.append F.2 (F.1::([]:List Int)))))) (aa (au M.aY N) λB=>aa (aB (λj:(Int×(List Int))=>ab (leI j.1 B.times) (aa (aB (λG:(Int×(List Int))=>ab (ah G.1 B.aQ) (aa (aa (oT (M,(G.1,j.1))) λO=>ab O (ae (decide ((List.append G.2 (G.1::([]:List Int))).length*8<=140737488355328/\(List.append G.2 (G.1::([]:List Int))).length<=9223372036854775807)) <|some (List.append G.2 (G.1::([]:List Int)))) (some G.2)) λ(O:(List Int))=>ae (ai (G.1+1)) <|some (.inl ((G.1+1),O))) (some (.inr G.2))) (B.from_,j.2)) λ(G:(List Int))=>ae (ai (j.1+1)) <|some (.inl ((j.1+1),G))) (some (.inr j.2))) (B.times,F.2)) λ(j:(List Int))=>some (.inl (B.aQ,j)))) (some (.inr F.2))) (M.jump.to,([]:List Int))) λ(F:(List Int))=>ae (decide ((List.append k F).length*8<=140737488355328/\(List.append k F).length<=9223372036854775807)) <|some (List.append k F))
def Ax:Form->Option Bool:=λ(j)=>aa (ab (ah j.bars 1) (some true) (ab (ah 4000 j.bars) (some true) (aa (AB (j.aY,j.bars)) λF=>ab (!F) (some true) (aa (Ay j) λk=>ab (!k) (some true) (aa (AA j) λB=>ab (!B) (some true) (some (ah 100 (j.bj.length:Int)))))))) λ(F:Bool)=>ab F (some false) (aZ (aB (λk:Int=>ab (ah k (j.bj.length:Int)) (aa (aa (au j.bj k) λB=>aa (w5 (j,B)) λN=>ab (!N) (some true) (ae ((leI 0 k)&&(leI k (j.bj.length:Int))) <|aa (au j.bj k) λG=>aa (w6 ((List.take (Int.toNat k) j.bj),G)) λM=>some (leI 0 M))) λ(B:Bool)=>ab B (some (.inr (.inr false))) (ae (ai (k+1)) <|some (.inl (k+1)))) (some (.inr (.inl ())))) 0) λ(k:Unit)=>aa (w7 j) λB=>some (leI (B.length:Int) 20000))
def Fl:(Int×(Int×Int))->Option Bool:=λ(j,k,B)=>aa (ab (leI k j) (some (leI j B)) (some false)) λ(F:Bool)=>some F
def AD:(List Int)->Option Bool:=λ(k)=>aZ (aB (λj:Int=>ab (ah j (k.length:Int)) (aa (aa (au k j) λB=>aa (Fl (B,(1,20))) λM=>ab (!M) (some true) (ab (ah 0 j) (aa (au k j) λF=>ae (ai (j-1)) <|aa (au k (j-1)) λG=>some (leI F G)) (some false))) λ(B:Bool)=>ab B (some (.inr (.inr false))) (ae (ai (j+1)) <|some (.inl (j+1)))) (some (.inr (.inl ())))) 0) λ(j:Unit)=>some true
def AF:(eo×ej)->Option Bool:=λ(k,j)=>aa (aa (wZ k.aI) λF=>ab (!F) (some true) (some (!(aF j.version k.aI.version)))) λ(F:Bool)=>ab F (some false) (aa (aa (Ax j.form) λB=>ab B (ab (aF j.form.bars (k.aI.bars.length:Int)) (aa (AD j.bF) λG=>some G) (some false)) (some false)) λ(B:Bool)=>some B)
def w4:Form->Option (List aA):=λ(B)=>aa (w7 B) λF=>ae (leI 0 B.bars) <|ae (decide ((List.replicate (Int.toNat B.bars) (0:Int)).length*8<=140737488355328/\(List.replicate (Int.toNat B.bars) (0:Int)).length<=9223372036854775807)) <|aa (aB (λj:(Int×((List Int)×(List aA)))=>ab (ah j.1 (F.length:Int)) (aa (au F j.1) λk=>ae ((leI 0 k)&&(ah k (j.2.1.length:Int))) <|aa (au j.2.1 k) λG=>ae (ai (G+1)) <|ae ((leI 0 k)&&(ah k (j.2.1.length:Int))) <|aa (au j.2.1 k) λU=>aa (au F j.1) λM=>aa (au F j.1) λN=>ae ((leI 0 N)&&(ah N ((List.set j.2.1 (Int.toNat k) (G+1)).length:Int))) <|aa (au (List.set j.2.1 (Int.toNat k) (G+1)) N) λO=>ae (decide ((List.append j.2.2 ((⟨M,O⟩:aA)::([]:List aA))).length*16<=140737488355328/\(List.append j.2.2 ((⟨M,O⟩:aA)::([]:List aA))).length<=9223372036854775807)) <|ae (ai (j.1+1)) <|some (.inl ((j.1+1),((List.set j.2.1 (Int.toNat k) (G+1)),(List.append j.2.2 ((⟨M,O⟩:aA)::([]:List aA))))))) (some (.inr j.2.2))) (0,((List.replicate (Int.toNat B.bars) (0:Int)),([]:List aA)))) λ(j:(List aA))=>some j
def Ae:(eo×ej)->Option Bool:=λ(k,B)=>aa (aa (AE (k,B)) λj=>ab j (aa (AF (k,B)) λF=>some F) (some false)) λ(j:Bool)=>some j
def Ad:((List az)×Rat)->Option ((List az)×Bool):=λ(F,G)=>aZ (aB (λj:(Int×(List az))=>ab (ah j.1 (F.length:Int)) (aa (au F j.1) λk=>aa (fB (k.start,G)) λB=>ab (!(aF B.2 0)) (some (.inr (.inr (([]:List az),false)))) (ae (decide ((List.append j.2 ((⟨k.part,B.1,k.length,k.aU⟩:az)::([]:List az))).length*64<=140737488355328/\(List.append j.2 ((⟨k.part,B.1,k.length,k.aU⟩:az)::([]:List az))).length<=9223372036854775807)) <|ae (ai (j.1+1)) <|some (.inl ((j.1+1),(List.append j.2 ((⟨k.part,B.1,k.length,k.aU⟩:az)::([]:List az))))))) (some (.inr (.inl j.2)))) (0,([]:List az))) λ(j:(List az))=>some (j,true)
def Fg:(ak×(ak×(List (Int×Int))))->Option Int:=λ(j,k,B)=>aa (qi j.start) λF=>aa (qi k.start) λG=>aa (mC j.aU) λM=>aa (mC k.aU) λN=>ae (ai ((aq B j.av 0)-(aq B k.av 0))) <|ae (ai (j.part-k.part)) <|ae (ai (F.1-G.1)) <|ae (ai (j.bp-k.bp)) <|ae (ai (M.1-N.1)) <|ae (ai (j.id-k.id)) <|aa (rT (((aq B j.av 0)-(aq B k.av 0))::((j.part-k.part)::((F.1-G.1)::((j.bp-k.bp)::((M.1-N.1)::((j.id-k.id)::([]:List Int)))))))) λO=>some O
def xf:aV->Option Int:=λ(j)=>aa (mC j) λk=>some k.1
def FM:(az×(az×Unit))->Option Int:=λ(j,k,O)=>aa (r6 (j.start,k.start)) λG=>aa (r6 (j.length,k.length)) λM=>ae (ai (j.part-k.part)) <|aa (xf j.aU) λB=>aa (xf k.aU) λF=>ae (ai (B-F)) <|ae (ai (j.aU.step-k.aU.step)) <|aa (rT (G.1::((j.part-k.part)::((B-F)::((j.aU.step-k.aU.step)::(M.1::([]:List Int))))))) λN=>some N
def E6:(aw×aw)->Option Int:=λ(j,k)=>aa (r6 (j.start,k.start)) λG=>aa (mC j.aU) λB=>aa (mC k.aU) λF=>ae (ai (j.bp-k.bp)) <|ae (ai (B.1-F.1)) <|aa (qh (j.id,k.id)) λM=>aa (rT (G.1::((j.bp-k.bp)::((B.1-F.1)::(M::([]:List Int)))))) λN=>some N
end Go.Proofs.YthhlipkkjippfaaGreatDoor
namespace Go.Proofs.YthhlipkkjippfaaGreatDoor
open Go Go.ag Go.Sy
variable [mP]
set_option maxRecDepth 100000
def Cr:=bk [tI,tI] [.st 0] kQ [] Tryz.func21
def PX:=bk [] [.st 13,.st 14] Fe [Cr] Tryz.func29
def QW:=bk [.st 21] [.bool] AL [] Tryz.func130
def QV:=bk [.st 8,.box (.st 9)] [.bool] Fq [] Tryz.func222
def RD:=bk [.list (.st 8),.aD 222 (.box (.st 9))] [tI] FG [QV] Tryz.func226
def Rm:=bk [.list (.st 8),.aD 222 (.box (.st 9))] [.bool] A4 [RD] Tryz.func221
def QU:=bk [.st 21] [.bool] AJ [Rm] Tryz.func131
def Q2:=bk [.st 8,.box tI] [.bool] Ft [] Tryz.func278
def RE:=bk [.list (.st 8),.aD 278 (.box tI)] [tI] FH [Q2] Tryz.func226
def Rn:=bk [.list (.st 8),.aD 278 (.box tI)] [.bool] Fy [RE] Tryz.func221
def Q1:=bk [.st 21,tI] [.bool] uA [Rn] Tryz.func223
def QZ:=bk [.st 21] [.bool] AN [Q1] Tryz.func132
def QX:=bk [.st 21,.st 10] [.bool] AM [] Tryz.func224
def QT:=bk [.st 21] [.bool] AI [QX] Tryz.func133
def Ig:=bk [.st 21] [.aD 135 (.box (.st 21))] Fu [] Tryz.func61
def Ic:=bk [.st 21,tI,tI,.bool] [.aD 225 (.aN (.box tI) (.aN (.box tI) (.aN (.box (.st 21)) (.box (.bool)))))] w8 [] Tryz.func137
def QY:=bk [.st 9,.box tI,.box tI] [.bool] Fs [] Tryz.func280
def Rw:=bk [.list (.st 9),.aD 280 (.aN (.box tI) (.box tI))] [tI] FD [QY] Tryz.func306
def Ri:=bk [.list (.st 9),.aD 280 (.aN (.box tI) (.box tI))] [.bool] Fx [Rw] Tryz.func279
def Ie:=bk [.st 21,tI,tI] [.bool] iW [Ri] Tryz.func228
def Q0:=bk [.st 21] [.bool] AP [Ig,Ic,Ie] Tryz.func134
def QS:=bk [.st 11] [.bool] AH [QW,QU,QZ,QT,Q0] Tryz.func60
def QR:=bk [.st 10,.box (.st 19)] [.bool] Fp [] Tryz.func62
def Rv:=bk [.list (.st 10),.aD 62 (.box (.st 19))] [tI] FC [QR] Tryz.func138
def Rh:=bk [.list (.st 10),.aD 62 (.box (.st 19))] [.bool] iZ [Rv] Tryz.func63
def Ib:=bk [.st 11] [.list (.st 19),tI] uz [QS,Ig,Ic,Rh,Ie] Tryz.func26
def sW:=bk [.st 0] [.bool] mE [Ia] Tryz.func66
def PI:=bk [.st 0] [.bool] z7 [sW] Tryz.func261
def H0:=bk [tI,tI,tI] [.bool] rY [] Tryz.func240
def oc:=bk [.st 3] [.bool] iI [H0] Tryz.func158
def PH:=bk [.st 16] [.bool] z6 [PI,oc] Tryz.func185
def PJ:=bk [.st 16] [.bool] E9 [PH] Tryz.func184
def Rs:=bk [.list (.st 16),.fn 184] [.bool] A7 [PJ] Tryz.func146
def yi:=bk [.st 18] [.bool] rU [Rs] Tryz.func95
def Rg:=bk [.list tI] [.aD 231 (.box (.list tI))] L6 [] Tryz.func145
def Rr:=bk [.list (.st 16),.aD 147 (.box tI)] [.bool] A6 [] Tryz.func146
def Pz:=bk [.st 17,.box (.list tI)] [.aD 148 (.box tI)] zW [Rg,Rr] Tryz.func144
def PL:=bk [.st 17,.box (.aD 144 (.box (.list tI)))] [.st 17] wM [Pz] Tryz.func208
def PE:=bk [.list (.st 17),.aD 208 (.box (.aD 144 (.box (.list tI))))] [.list (.st 17)] E8 [PL] Tryz.func207
def PN:=bk [.st 18,.aD 144 (.box (.list tI))] [.st 18] Fb [PE] Tryz.func117
def HS:=bk [.st 18,.list tI] [.st 18,tI] mB [yi,PN] Tryz.func67
def vu:=bk [tI,tI,tI] [.bool] iY [] Tryz.func194
def Ii:=bk [tI] [.bool] uB [vu] Tryz.func110
def P3:=bk [.st 0] [.bool] wQ [sW] Tryz.func139
def Cv:=bk [.st 0,.st 0] [tI,tI] r6 [sW] Tryz.func28
def P4:=bk [.st 0,.st 0] [.bool] wR [Cv] Tryz.func140
def HT:=bk [.list (.st 1)] [.bool] wP [P3,P4] Tryz.func64
def HY:=bk [.st 2] [.bool] rX [H0] Tryz.func284
def yj:=bk [.st 2] [.st 2,tI] oS [HY] Tryz.func238
def PU:=bk [.st 2] [.bool] Fc [yj] Tryz.func315
def Cp:=bk [.st 2] [tI,tI] uk [PU] Tryz.func301
def Rb:=bk [.st 2] [.bool] r7 [Cp,vu] Tryz.func265
def HZ:=bk [.st 3] [tI] qj [] Tryz.func159
def sV:=bk [.st 3] [tI,tI] mC [oc,HZ] Tryz.func74
def Ih:=bk [.st 3] [tI] nG [sV] Tryz.func202
def Q8:=bk [.st 4] [.bool] AU [Ii,vu,Rb,oc,Ih] Tryz.func195
def Q5:=bk [.st 4,.box (.map tI (.st 4))] [.bool] AS [] Tryz.func196
def Rz:=bk [.list (.st 4),.aD 196 (.box (.map tI (.st 4)))] [tI] A8 [Q5] Tryz.func152
def Rl:=bk [.list (.st 4),.aD 196 (.box (.map tI (.st 4)))] [.bool] A3 [Rz] Tryz.func197
def Q4:=bk [.list (.st 4)] [.bool] AR [vu,Q8,Rl] Tryz.func111
def HV:=bk [.list (.st 1)] [.map tI tI] wT [] Tryz.func198
def HW:=bk [.st 0] [tI,.bool] qi [sW] Tryz.func266
def Cs:=bk [tI,tI,tI] [.bool] rW [] Tryz.func268
def P7:=bk [tI] [.bool] wU [Cs] Tryz.func267
def P8:=bk [.st 3] [.bool] Ah [oc,Cs] Tryz.func269
def P6:=bk [.st 1,.st 5] [.bool] Ag [HW,P7,Cs,P8] Tryz.func199
def HU:=bk [.list (.st 1),.list (.st 5)] [.bool] wS [HT,HV,P6] Tryz.func112
def Re:=bk [.st 5,.box (.map tI (.st 4))] [.bool] AW [] Tryz.func200
def Rx:=bk [.list (.st 5),.aD 200 (.box (.map tI (.st 4)))] [tI] FE [Re] Tryz.func270
def Rj:=bk [.list (.st 5),.aD 200 (.box (.map tI (.st 4)))] [.bool] AZ [Rx] Tryz.func203
def Rf:=bk [.st 5,.box (.map tI (.st 4))] [.bool] AY [Ih,vu] Tryz.func201
def Ry:=bk [.list (.st 5),.aD 201 (.box (.map tI (.st 4)))] [tI] FF [Rf] Tryz.func270
def Rk:=bk [.list (.st 5),.aD 201 (.box (.map tI (.st 4)))] [.bool] A2 [Ry] Tryz.func203
def Rc:=bk [.list (.st 4),.list (.st 5)] [tI] w9 [Rj,Rk] Tryz.func113
def Ru:=bk [.list (.st 5),.list (.st 5)] [.bool] FB [] Tryz.func115
def Q9:=bk [.st 4] [tI] Fw [] Tryz.func150
def Q6:=bk [.st 4,.box (.fn 150),.box tI] [.bool] Fv [Q9] Tryz.func233
def RA:=bk [.list (.st 4),.aD 233 (.aN (.box (.fn 150)) (.box tI))] [tI] A9 [Q6] Tryz.func152
def Q7:=bk [.list (.st 4),tI,.fn 150] [tI,.bool] AT [RA] Tryz.func149
def Ra:=bk [.st 6,.st 4] [.aD 234 (.aN (.box (.st 6)) (.aN (.box tI) (.box (.st 4))))] AV [] Tryz.func151
def RR:=bk [.st 4,.box tI] [.bool] FN [] Tryz.func153
def RB:=bk [.list (.st 4),.aD 153 (.box tI)] [tI] Ba [RR] Tryz.func152
def Cy:=bk [.st 6,tI] [.st 23,.bool] uD [RB] Tryz.func69
def PT:=bk [tI,tI] [.bool] ui [] Tryz.func307
def PS:=bk [.st 3] [tI] wN [sV] Tryz.func308
def Cn:=bk [.st 4] [.bool] uj [Cp,PT,oc,PS] Tryz.func282
def PV:=bk [tI] [.bool] rV [] Tryz.func309
def Cq:=bk [tI,.st 2] [tI,.st 2,tI] um [Cp,PV] Tryz.func283
def Qb:=bk [.st 3] [tI] Fh [] Tryz.func286
def Qc:=bk [tI,tI] [tI,tI] Aj [] Tryz.func285
def HX:=bk [.st 3,.st 2] [.st 3,tI] wV [oc,HY,Qb,Qc,HZ] Tryz.func239
def PR:=bk [.st 4,tI,.st 3] [.st 3,tI] Ab [Cn,yj,Cq,oc,HX] Tryz.func235
def RV:=bk [.st 23,.st 1,.st 5] [.st 16] xl [PR] Tryz.func155
def PO:=bk [.st 4,tI] [tI,tI] z8 [Cn,yj,Cq] Tryz.func179
def Io:=bk [.st 23,.st 1,.list (.st 16)] [.st 17] xk [PO] Tryz.func90
def Ip:=bk [.st 0] [tI] ql [sW] Tryz.func182
def RU:=bk [.st 16] [tI] xj [sV] Tryz.func180
def Ps:=bk [tI] [.bool] zU [] Tryz.func260
def HR:=bk [tI,tI] [tI] qh [Ps] Tryz.func181
def yh:=bk [.list tI] [tI] rT [] Tryz.func77
def RT:=bk [.st 16,.st 16] [tI] xi [Ip,HR,RU,yh] Tryz.func92
def RI:=bk [.list (.st 16),.fn 92] [.bool] Bb [RT] Tryz.func91
def RW:=bk [tI,tI,tI] [.bool] xm [] Tryz.func183
def RS:=bk [.st 16,.st 0] [.bool] xh [RW,Ip,oc] Tryz.func93
def PQ:=bk [.st 4,tI,.st 3] [.st 3,tI] Aa [Cn,yj,Cq,oc,HX] Tryz.func156
def QO:=bk [.box (.st 0),.box (.st 0)] [.st 20] Fm [] Tryz.func53
def QP:=bk [.st 20] [.st 0,tI] AG [Ia,Cw] Tryz.func124
def QQ:=bk [.st 0,.st 0,.aD 53 (.aN (.box (.st 0)) (.box (.st 0)))] [.st 0,tI] Fo [sW,QO,QP] Tryz.func52
def yl:=bk [.st 0,.st 0] [.st 0,tI] fB [QQ] Tryz.func23
def P1:=bk [.map tI (.bool)] [.aD 276 (.box (.map tI (.bool)))] L4 [] Tryz.func206
def Pv:=bk [.st 17,.box tI] [.aD 119 (.box tI)] L3 [] Tryz.func118
def PK:=bk [.st 17,.box (.aD 118 (.box tI))] [.st 17] wL [Pv] Tryz.func208
def PD:=bk [.list (.st 17),.aD 208 (.box (.aD 118 (.box tI)))] [.list (.st 17)] E7 [PK] Tryz.func207
def PM:=bk [.st 18,.aD 118 (.box tI)] [.st 18] Fa [PD] Tryz.func117
def Pu:=bk [.st 18,tI] [.st 18,tI] wI [yi,PM] Tryz.func47
def Px:=bk [.st 18] [.bool] E4 [yi] Tryz.func94
def RF:=bk [.list (.st 18),.fn 94] [tI] FI [Px] Tryz.func89
def Ro:=bk [.list (.st 18),.fn 94] [.bool] A5 [RF] Tryz.func39
def PG:=bk [.st 17,.st 17] [.bool] zZ [] Tryz.func187
def Rt:=bk [.list (.st 17),.list (.st 17),.fn 187] [.bool] FA [PG] Tryz.func186
def PF:=bk [.st 18,.st 18] [.bool] zY [Rt] Tryz.func97
def Py:=bk [.st 18,.box (.list (.st 18))] [.bool] E5 [PF] Tryz.func96
def RG:=bk [.list (.st 18),.aD 96 (.box (.list (.st 18)))] [tI] FJ [Py] Tryz.func89
def Rp:=bk [.list (.st 18),.aD 96 (.box (.list (.st 18)))] [.bool] Fz [RG] Tryz.func39
def P2:=bk [.map tI (.st 16)] [.aD 190 (.box (.map tI (.st 16)))] Ff [] Tryz.func99
def H9:=bk [.list (.st 15),.list (.st 15)] [.bool] oU [] Tryz.func13
def Qy:=bk [.st 11] [.bool] Aw [] Tryz.func30
def QM:=bk [.st 13,.st 14] [.bool] AE [Qy] Tryz.func9
def Qk:=bk [tI,tI] [tI] Ao [] Tryz.func171
def Cu:=bk [.st 0] [tI] qk [Qk] Tryz.func85
def H4:=bk [.list (.st 1)] [.bool] wW [Cu] Tryz.func54
def yk:=bk [tI,tI,tI] [.bool] lS [] Tryz.func56
def Qj:=bk [tI,tI,tI] [.bool] An [] Tryz.func333
def Qi:=bk [.st 2] [.bool] Fj [Qj] Tryz.func305
def Qh:=bk [.st 2] [tI,tI] Am [Qi] Tryz.func277
def Qv:=bk [.st 2] [.bool] Av [Qh,yk] Tryz.func217
def H3:=bk [tI,tI,tI] [.bool] rZ [] Tryz.func256
def H2:=bk [.st 3] [.bool] uo [H3] Tryz.func175
def Qg:=bk [tI] [tI] Fi [] Tryz.func264
def Ct:=bk [.st 3] [tI] mD [Qg] Tryz.func192
def Qs:=bk [.st 4] [.bool] As [yk,Qv,H2,Ct] Tryz.func125
def H6:=bk [.list (.st 4),tI] [tI] uv [] Tryz.func101
def Qt:=bk [.list (.st 4)] [.bool] Au [Qs,H6] Tryz.func55
def H5:=bk [.list (.st 1),tI] [tI] wX [] Tryz.func218
def Qf:=bk [.st 3] [.bool] Al [H2,H3] Tryz.func219
def Qo:=bk [tI,tI,tI] [.bool] uq [] Tryz.func220
def Qm:=bk [.list (.st 1),.st 5] [.bool] Aq [H5,Qf,Qo,Cu] Tryz.func126
def Qn:=bk [.list (.st 1),.list (.st 5)] [.bool] Ar [H4,Qm] Tryz.func57
def Qr:=bk [.list (.st 4),.st 5] [tI] ur [H6] Tryz.func127
def Qu:=bk [.st 4,.st 3] [.bool] Fk [Ct,yk] Tryz.func128
def Qw:=bk [.list (.st 4),.list (.st 5)] [tI] w3 [Qr,Qu] Tryz.func58
def Qq:=bk [.list (.st 1),.st 5] [.list tI] wY [H5,Cu,Ct] Tryz.func129
def Ql:=bk [.list (.st 1),.st 5,.st 5] [.bool] Ap [Qq] Tryz.func59
def H7:=bk [.st 6] [.bool] wZ [H4,Qt,yk,Qn,Qw,Ql] Tryz.func25
def QH:=bk [.list (.st 8),tI] [.bool] AB [] Tryz.func162
def QE:=bk [.list (.st 8),tI,tI] [.bool] Az [] Tryz.func251
def QC:=bk [.st 11] [.bool] Ay [QE] Tryz.func163
def QJ:=bk [.list (.st 8),tI] [.bool] ux [] Tryz.func252
def QF:=bk [.st 11] [.bool] AA [QJ] Tryz.func164
def QB:=bk [.st 11,.st 10] [.bool] w5 [] Tryz.func165
def QD:=bk [.list (.st 10),.st 10] [tI] w6 [] Tryz.func166
def QI:=bk [.st 11,tI] [tI] uw [] Tryz.func214
def QG:=bk [.st 11,tI,tI] [.bool] oT [] Tryz.func215
def H8:=bk [.st 11] [.list tI] w7 [QI,QG] Tryz.func51
def Qz:=bk [.st 11] [.bool] Ax [QH,QC,QF,QB,QD,H8] Tryz.func78
def QL:=bk [tI,tI,tI] [.bool] Fl [] Tryz.func120
def QK:=bk [.list tI] [.bool] AD [QL] Tryz.func79
def QN:=bk [.st 13,.st 14] [.bool] AF [H7,Qz,QK] Tryz.func36
def QA:=bk [.st 11] [.list (.st 19)] w4 [H8] Tryz.func22
def P0:=bk [.st 13,.st 14] [.bool] Ae [QM,QN] Tryz.func19
def PZ:=bk [.list (.st 15),.st 0] [.list (.st 15),.bool] Ad [yl] Tryz.func24
def Qa:=bk [.st 5,.st 5,.box (.map tI tI)] [tI] Fg [HW,sV,yh] Tryz.func273
def RP:=bk [.st 3] [tI] xf [sV] Tryz.func73
def RQ:=bk [.st 15,.st 15,.box (.fn 73)] [tI] FM [Cv,RP,yh] Tryz.func76
def PB:=bk [.st 16,.st 16] [tI] E6 [Cv,sV,HR,yh] Tryz.func100
end Go.Proofs.YthhlipkkjippfaaGreatDoor
namespace Go.Proofs.YthhlipkkjippfaaGreatDoor
open Go Go.ag Go.Sy
@[reducible] def cF:mP:=⟨False⟩
attribute [local instance] ch cF
def Bg:∀(k:Nat)(a b:Int),b.natAbs<=k->0<=a->0<=b->gr a b=(Int.gcd a b:Int)
 |k,a,b,hk,j,B=>by
  by_cases h:b=0
  ·subst h;rw[Bh];simp[Int.gcd];omega
  rw[FU h,n3 j]
  have F:0<=a%b:=Int.emod_nonneg _ h
  have G:a%b<b:=Int.emod_lt_of_pos _ (by omega)
  match k,hk with
  |0,hk=>omega
  |k+1,hk=>
   rw[Bg k b (a%b) (by omega) B F]
   congr 1
   unfold Int.gcd
   have e:(a%b).natAbs=a.natAbs%b.natAbs:=by
    obtain⟨x,rfl⟩:=v7 j
    obtain⟨y,rfl⟩:=v7 B
    rw[<-Int.natCast_emod];rfl
   rw[e,Nat.gcd_comm,<-Nat.gcd_rec,Nat.gcd_comm]
def L5{n:Int}(h: -1000000000000<=n/\n<=1000000000000):oV n=some (n.natAbs:Int):=by
 unfold oV j8
 rw[aE (by omega)]
 congr 1
 omega
def jD(q:Rat):Prop:=1<=q.d/\q.d<=1000000 /\ -1000000000<=q.n/\q.n<=1000000000/\Int.gcd q.n q.d=1
instance (q:Rat):Decidable (jD q):=inferInstanceAs (Decidable (_/\_/\_/\_/\_))
def Xk{n d:Int}(F:1<=d)(G:d<=1000000)(M: -1000000000<=n)(N:n<=1000000000):qg ⟨n,d⟩=some ⟨n.tdiv (Int.gcd n d),d.tdiv (Int.gcd n d)⟩:=by
 unfold qg
 rw[L5 (by dsimp only;omega),af,L5 (by dsimp only;omega),af,aj (by simp;omega),Bg _ _ _ (eb _) (by omega) (by omega)]
 have j:((Int.gcd (n.natAbs:Int) (d.natAbs:Int):Nat):Int)=(Int.gcd n d:Int):=by simp[Int.gcd]
 dsimp only
 rw[j]
 have O:0<Int.gcd n d:=Kd n (by omega)
 have k:((n.tdiv (Int.gcd n d)).natAbs)<=n.natAbs:=by rw[abB];exact tb _ _
 have B:((d.tdiv (Int.gcd n d)).natAbs)<=d.natAbs:=by rw[abB];exact tb _ _
 unfold uh
 rw[tE (by omega),tE (by unfold iC;dsimp only;omega),tE (by unfold iC;dsimp only;omega)]
def R2(a b:eQ):Ir a b=decide (a=b):=by
 obtain⟨j,k⟩:=a
 obtain⟨B,F⟩:=b
 rw[hC,ea,eQ.mk.injEq]
 show di [.int .i64 j,.int .i64 k] [.int .i64 B,.int .i64 F]=true↔_
 simp[di,gz]
def si(q:Rat):mE q=some (decide (jD q)):=by
 obtain⟨n,d⟩:=q
 have G:¬(1<=d/\d<=1000000 /\ -1000000000<=n/\n<=1000000000)->decide (jD ⟨n,d⟩)=false:=λh=>dd λk=>h ⟨k.1,k.2.1,k.2.2.1,k.2.2.2.1⟩
 unfold mE uy
 dsimp only
 by_cases B:d<1
 ·rw[an (by simp[B]),af,an rfl,G (by omega)]
 by_cases j:1000000<d
 ·rw[aj (by simp[B]),an (by simp[j]),af,an rfl,G (by omega)]
 by_cases F:n < -1000000000
 ·rw[aj (by simp[B]),aj (by simp[j]),an (by simp[F]),af,an rfl,G (by omega)]
 rw[aj (by simp[B]),aj (by simp[j]),aj (by simp[F]),af]
 by_cases h:1000000000<n
 ·rw[an (by simp[h]),G (by omega)]
 rw[aj (by simp[h]),Xk (by omega) (by omega) (by omega) (by omega),af,R2]
 congr 1
 rw[hC,ea,ea,eQ.mk.injEq]
 have O:0<Int.gcd n d:=Kd n (by omega)
 constructor
 ·rintro⟨_,j⟩
  refine⟨by dsimp only;omega,by dsimp only;omega,by dsimp only;omega,by dsimp only;omega,?_⟩
  by_cases N:Int.gcd n d=1
  ·exact N
  exfalso
  have F:(d.tdiv (Int.gcd n d)).natAbs=d.natAbs/Int.gcd n d:=by rw[abB];rfl
  rw[j]at F
  have:d.natAbs/Int.gcd n d<d.natAbs:=Nat.div_lt_self (by omega) (by omega)
  omega
 rintro⟨_,_,_,_,M⟩
 dsimp only at M
 rw[M];simp
def cd(p:aV):Prop:=(0<=p.step/\p.step<=6)/\(-4<=p.alter/\p.alter<=4)/\(-8<=p.bm/\p.bm<=20)
instance (p:aV):Decidable (cd p):=inferInstanceAs (Decidable (_/\_/\_))
def Ak(n lo hi:Int):rY (n,lo,hi)=some (decide (lo<=n/\n<=hi)):=l7 n lo hi
def Mq(n lo hi:Int):rZ (n,lo,hi)=some (decide (lo<=n/\n<=hi)):=l7 n lo hi
def XY(n lo hi:Int):uq (n,lo,hi)=some (decide (lo<=n/\n<=hi)):=l7 n lo hi
def Bp(n lo hi:Int):lS (n,lo,hi)=some (decide (lo<=n/\n<=hi)):=l7 n lo hi
def EW(n lo hi:Int):rW (n,lo,hi)=some (decide (lo<=n/\n<=hi)):=l7 n lo hi
def xL(n lo hi:Int):iY (n,lo,hi)=some (decide (lo<=n/\n<=hi)):=l7 n lo hi
def WB(n:Int):wU n=some (decide (1<=n/\n<=1000000)):=by unfold wU;rw[EW,af]
def NA(n:Int):uB n=some (decide (1<=n/\n<=1000000)):=by unfold uB;rw[xL,af]
def mA(p:aV):iI p=some (decide (cd p)):=by
 unfold iI cd
 simp only[Ak,af,ya]
 exact kg (by simp[mo])
def Mp(p:aV):uo p=some (decide (cd p)):=by
 unfold uo cd
 simp only[Mq,af,ya]
 exact kg (by simp[mo])
def uc:List Int:=[0,2,4,5,7,9,11]
def iF(n:Int):Int:=(uc[n.toNat]?).getD 0
def num(p:aV):Int:=12*p.bm+iF p.step+p.alter
def wD(n:Int):0<=iF n/\iF n<=11:=by
 unfold iF uc
 generalize n.toNat=k
 rcases k with _|_|_|_|_|_|_|k<;>simp
def XQ{n:Int}(h:0<=n/\n<=6):Fi n=some (iF n):=by
 have:n=0\/n=1\/n=2\/n=3\/n=4\/n=5\/n=6:=by omega
 rcases this with rfl|rfl|rfl|rfl|rfl|rfl|rfl<;>rfl
def uJ{p:aV}(h:cd p):mD p=some (num p):=by
 have F:=wD p.step
 obtain⟨j,k,B⟩:=h
 unfold mD
 rw[aE (by omega),XQ j,af,aE (by omega),aE (by omega)]
 rfl
def Mg{p:aV}(h:cd p):qj p=some (num p):=by
 obtain⟨⟨j,B⟩,⟨F,G⟩,M,N⟩:=h
 have O:=wD p.step
 have k:au [0,2,4,5,7,9,11] p.step=some (iF p.step):=by
  show au uc p.step=_
  unfold au iF
  rw[if_pos j]
  have:p.step.toNat<uc.length:=by show _<7;omega
  rw[c3 this];rfl
 unfold qj
 rw[aE (by omega),bh k,aE (by omega),aE (by omega)]
 rfl
def qf(p:aV):mC p=some (if cd p then(num p,0)else(0,1)):=by
 unfold mC
 rw[mA,af]
 by_cases h:cd p
 ·rw[aj (by simp[h]),if_pos h,Mg h,af]
 rw[an (by simp[h]),if_neg h]
def xH{p:aV}(h:cd p):nG p=some (num p):=by
 unfold nG
 rw[qf,if_pos h,af]
def rP{p:aV}(h:cd p): -1000<=num p/\num p<=1000:=by
 have:=wD p.step
 unfold cd at h
 unfold num
 omega
def lQ(p:aV):Prop:=cd p/\(-2<=p.alter/\p.alter<=2)/\(0<=p.bm/\p.bm<=9)
instance (p:aV):Decidable (lQ p):=inferInstanceAs (Decidable (_/\_/\_))
def XP(p:aV):Al p=some (decide (lQ p)):=by
 unfold Al lQ
 simp only[Mp,Mq,af,ya]
 exact kg (by simp[mo])
def WC(p:aV):Ah p=some (decide (lQ p)):=by
 unfold Ah lQ
 simp only[mA,EW,af,ya]
 exact kg (by simp[mo])
def ga(x y:Int):Int:=if x<y then -1 else if y<x then 1 else 0
def Br{a b:Rat}(j:jD a)(k:jD b):r6 (a,b)=some (ga (a.n*b.d) (b.n*a.d),0):=by
 unfold r6
 simp only[si,af,vZ,j,k,K2,p6,hQ,h8]
 have key:∀{x y:Rat},jD x->jD y -> -9223372036854775808<=x.n*y.d/\x.n*y.d<=9223372036854775807:=by
  intro x y ⟨_,_,B,F,_⟩ ⟨N,O,_⟩
  have G:x.n*y.d<=1000000000*y.d:=tc F (by omega)
  have M: -1000000000*y.d<=x.n*y.d:=tc B (by omega)
  omega
 rw[aE (key j k),aE (key k j)]
 unfold ga
 simp only[ea]
 split
 ·rfl
 split<;>rfl
def bQ(q:Rat):Prop:=jD q/\0<=q.n/\Int.tmod 1680 q.d=0
instance (q:Rat):Decidable (bQ q):=inferInstanceAs (Decidable (_/\_/\_))
def bg(q:Rat):Int:=q.n*Int.tdiv 1680 q.d
def xO{q:Rat}(h:jD q):0<=Int.tdiv 1680 q.d/\Int.tdiv 1680 q.d<=1680:=by
 have B:=h.1
 obtain⟨k,j⟩:∃k:Nat,q.d=k:=⟨q.d.toNat,by omega⟩
 rw[j]
 exact⟨Int.tdiv_nonneg (by omega) (by omega),by have:=Int.tdiv_le_self (a:=1680) (k:Int) (by omega);exact this⟩
def lZ{q:Rat}(h:bQ q):0<=bg q/\bg q<=1680000000000:=by
 obtain⟨j,B,_⟩:=h
 obtain⟨k,F⟩:=xO j
 have G:=j.2.2.2.1
 unfold bg
 refine⟨Int.mul_nonneg B k,?_⟩
 calc q.n*Int.tdiv 1680 q.d<=1000000000*1680:=Int.mul_le_mul G F k (by omega)
  _=1680000000000:=by decide
def wF(q:Rat):qi q=some (if bQ q then(bg q,true)else(0,false)):=by
 unfold qi
 rw[si,af]
 by_cases j:jD q
 ·have M:q.d≠0:=by have:=j.1;omega
  have F:(!(aF q.d 0))=true:=by simp[M]
  rw[aj (by simp[j])]
  by_cases B:q.n<0
  ·rw[an (by simp[B]),af,an rfl,if_neg (by unfold bQ;omega)]
  rw[aj (by simp[B]),cr F,af]
  by_cases k:Int.tmod 1680 q.d=0
  ·have G:bQ q:=⟨j,by omega,k⟩
   have:=lZ G
   have:=xO j
   unfold bg at *
   rw[aj (by simp[k]),cr F,aE (by omega),aE (by omega),if_pos G]
  rw[an (by simp[k]),if_neg (by unfold bQ;simp[k])]
 rw[an (by simp[j]),af,an rfl,if_neg (λh=>j h.1)]
def Hd(q:Rat):ql q=some (if bQ q then bg q else -1):=by
 unfold ql
 rw[si,af]
 by_cases j:jD q
 ·have M:q.d≠0:=by have:=j.1;omega
  have F:(!(aF q.d 0))=true:=by simp[M]
  rw[aj (by simp[j])]
  by_cases B:q.n<0
  ·rw[an (by simp[B]),af,an rfl,if_neg (by unfold bQ;omega)]
  rw[aj (by simp[B]),cr F,af]
  by_cases k:Int.tmod 1680 q.d=0
  ·have G:bQ q:=⟨j,by omega,k⟩
   have:=lZ G
   have:=xO j
   unfold bg at *
   rw[aj (by simp[k]),cr F,aE (by omega),aE (by omega),if_pos G]
  rw[an (by simp[k]),if_neg (by unfold bQ;simp[k])]
 rw[an (by simp[j]),af,an rfl,if_neg (λh=>j h.1)]
def XU(a b:Int):Ao (a,b)=some (gr a b):=by
 unfold Ao
 dsimp only
 have key:∀(k:Nat)(a b:Int),b.natAbs<=k->aB (λj:(Int×Int)=>ab (!(aF j.2 0)) (ae (!(aF j.2 0)) <|some (.inl (j.2,(Int.tmod j.1 j.2)))) (some (.inr j.1))) (a,b)=some (gr a b):=by
  intro k
  induction k with
  |zero=>
   intro a b B
   have:b=0:=by omega
   subst this
   rw[Bh]
   exact iE (by dsimp only;rw[aj (by simp)])
  |succ k F=>
   intro a b B
   by_cases h:b=0
   ·subst h
    rw[Bh]
    exact iE (by dsimp only;rw[aj (by simp)])
   rw[FU h,mr (z':=(b,a.tmod b)) (by dsimp only;rw[an (by simp[h]),cr (by simp[h])])]
   refine F b _ ?_
   have:(a.tmod b).natAbs<b.natAbs:=by rw[abA];exact q6 _ (by omega)
   omega
 rw[key _ a b (eb _),af]
def TC{d:Int}(B:1<=d)(j:Int.tmod 1680 d=0):d<=1680:=by
 have:=B1 1680 d
 rw[j]at this
 refine hf λh=>?_
 have k:Int.tdiv 1680 d=0:=Int.tdiv_eq_zero_of_lt (by omega) (by omega)
 rw[k]at this;omega
def xu(q:Rat):qk q=some (if bQ q then bg q else -1):=by
 unfold qk
 by_cases F:q.d<1
 ·have:¬bQ q:=λh=>by have:=h.1.1;omega
  rw[an (by simp[F]),af,an rfl,if_neg this]
 have O:q.d≠0:=by omega
 have N:(!(aF q.d 0))=true:=by simp[O]
 rw[aj (by simp[F]),cr N]
 by_cases j:Int.tmod 1680 q.d=0
 ·rw[aj (by simp[j])]
  by_cases G:q.n<0
  ·have:¬bQ q:=λh=>by have:=h.2.1;omega
   rw[an (by simp[G]),af,an rfl,if_neg this]
  rw[aj (by simp[G])]
  by_cases M:1000000000<q.n
  ·have:¬bQ q:=λh=>by have:=h.1.2.2.2.1;omega
   rw[an (by simp[M]),af,an rfl,if_neg this]
  rw[aj (by simp[M]),XU,Bg _ _ _ (eb _) (by omega) (by omega),af,af]
  have Y:=TC (by omega) j
  by_cases k:Int.gcd q.n q.d=1
  ·have B:bQ q:=⟨⟨by omega,by omega,by omega,by omega,k⟩,by omega,j⟩
   have Z:=xO B.1
   have U:=lZ B
   unfold bg at U
   rw[aj (by simp[k]),cr N,aE (by omega),aE (by omega),if_pos B]
   rfl
  have:¬bQ q:=λh=>k h.1.2.2.2.2
  rw[an (by simp;omega),if_neg this]
 have:¬bQ q:=λh=>j h.2.2
 rw[an (by simp[j]),af,an rfl,if_neg this]
def nR{q:Rat}(h:bQ q):0<=bg q:=(lZ h).1
def GS{q:Rat}(h:bQ q):q.d*Int.tdiv 1680 q.d=1680/\0<q.d/\0<Int.tdiv 1680 q.d:=by
 have j:=B1 1680 q.d
 rw[h.2.2]at j
 have k:=h.1.1
 have B:=(xO h.1).1
 refine⟨by omega,by omega,?_⟩
 rcases Int.lt_or_le 0 (Int.tdiv 1680 q.d)with h4|h4
 ·exact h4
 have:Int.tdiv 1680 q.d=0:=by omega
 rw[this]at j;simp at j
end Go.Proofs.YthhlipkkjippfaaGreatDoor
namespace Go.Proofs.YthhlipkkjippfaaGreatDoor
open Go Go.ag Go.Sy
attribute [local instance] ch cF
def E1(z:Int):Unit⊕Int:=if z=0 then .inl ()else .inr z
def yr(l:List Int)(Y:l.length<=1000):rT l=some (c8 l):=by
 have key:∀(n k:Nat),k+n=l.length->aB (λF:Int=>ab (ah F (l.length:Int)) (aa (au l F) λN=>ab (!(aF N 0)) (some (.inr (.inr N))) (ae (ai (F+1)) <|some (.inl (F+1)))) (some (.inr (.inl ())))) (k:Int)=some (E1 (c8 (l.drop k))):=by
  intro n
  induction n with
  |zero=>
   intro k O
   rw[k6 (by omega)]
   refine iE ?_
   rw[aj (by simp;omega)];rfl
  |succ n U=>
   intro k O
   have B:k<l.length:=by omega
   have G:l[k]?=some l[k]:=c3 B
   rw[hT B]
   simp only[c8]
   by_cases j:l[k]=0
   ·rw[if_pos j,mr (z':=((k+1:Nat):Int)) (by
     rw[an (by simpa using B),bh (aW G),aj (by simp[j]),aE (by omega)];rfl)]
    exact U (k+1) (by omega)
   rw[if_neg j]
   refine iE ?_
   rw[an (by simpa using B),bh (aW G),an (by simp[j])]
   simp[j,E1]
 have M:=key l.length 0 (by omega)
 rw[rr]at M
 unfold rT
 refine(gC M).trans ?_
 unfold E1
 by_cases h:c8 l=0
 ·rw[if_pos h,h];rfl
 rw[if_neg h];rfl
def nK(at_:List (Int×Int))(a:ak):List Int:=[aq at_ a.av 0,a.part,bg a.start,a.bp,num a.aU,a.id]
theorem wC(at_:List (Int×Int))(a:ak):(nK at_ a).length=6:=rfl
def oO(at_:List (Int×Int))(a:ak):Prop:=(0<=aq at_ a.av 0/\aq at_ a.av 0<=1000000)/\(0<=a.part/\a.part<=1000000)/\bQ a.start/\(0<=a.bp/\a.bp<=1000000)/\cd a.aU/\(0<=a.id/\a.id<=1000000)
instance (at_:List (Int×Int)) (a:ak):Decidable (oO at_ a):=inferInstanceAs (Decidable (_/\_/\_/\_/\_/\_))
def Wu{at_:List (Int×Int)}{a b:ak}(G:oO at_ a)(M:oO at_ b):Fg (a,b,at_)=some (cC (nK at_) a b):=by
 obtain⟨N,O,j,U,k,Y⟩:=G
 obtain⟨Z,aa,B,ab,F,ad⟩:=M
 have ah:=lZ j
 have ai:=lZ B
 have ae:=rP k
 have ag:=rP F
 unfold Fg
 dsimp only
 rw[wF,if_pos j,af,wF,if_pos B,af,qf,if_pos k,af,qf,if_pos F,af]
 dsimp only
 rw[aE (by omega),aE (by omega),aE (by omega),aE (by omega),aE (by omega),aE (by omega),yr _ (by simp),af]
 rfl
end Go.Proofs.YthhlipkkjippfaaGreatDoor
namespace Go.Proofs.YthhlipkkjippfaaGreatDoor
open Go Go.ag Go.Sy
attribute [local instance] ch cF
def qv(d:Int):Int:=if d<0 then -1 else if 0<d then 1 else 0
def uR(S:List Bool)(l:List Int):List Int:=l.zipWith (λd s=>if s then qv d else d) S
def Y2(d:Int):(qv d=0↔d=0)/\(qv d<0↔d<0):=by
 unfold qv
 split
 ·omega
 split<;>omega
def JR:∀(l:List Int)(S:List Bool),l.length=S.length->(c8 (uR S l)=0↔c8 l=0)/\(c8 (uR S l)<0↔c8 l<0)
 | [],[],_=>by simp[uR,c8]
 |d::l,s::S,h=>by
  have k:=JR l S (by simpa using h)
  have j:=Y2 d
  have e:uR (s::S) (d::l)=(if s then qv d else d)::uR S l:=rfl
  rw[e]
  cases s with
  |false=>
   simp only[hQ,h8,c8]
   split<;>simp_all
  |true=>
   simp only[hK,c8,j.1]
   split<;>simp_all
 | [],_::_,h=>by simp at h
 |_::_,[],h=>by simp at h
def iw{α:Type}(S:List Bool)(K:α->List Int)(a b:α):Int:=c8 (uR S ((K a).zipWith (· - ·) (K b)))
def vB{α:Type}{S:List Bool}{K:α->List Int}(j:∀a,(K a).length=S.length)(a b:α):iw S K a b<0↔cC K a b<0:=(JR _ S (by simp[j])).2
def pe{α:Type}{S:List Bool}{K:α->List Int}(j:∀a,(K a).length=S.length):Go.Sort.SWO (Go.Proofs.ltOf (iw S K)):=by
 have e:Go.Proofs.ltOf (iw S K)=Go.Proofs.ltOf (cC K):=by
  funext a b
  exact j0.2 (vB j a b)
 rw[e];exact BO j
def IT(a b:Int):ga a b=qv (a-b):=by
 unfold ga qv
 repeat' split
 all_goals omega
def CU{a b:Rat}(N:bQ a)(O:bQ b):ga (a.n*b.d) (b.n*a.d)=qv (bg a-bg b):=by
 obtain⟨⟨aa,ab,_⟩,_,ad⟩:=N
 obtain⟨⟨ae,af,_⟩,_,ag⟩:=O
 have B:a.d*Int.tdiv 1680 a.d=1680:=by have:=Int.mul_tdiv_add_tmod 1680 a.d;omega
 have F:b.d*Int.tdiv 1680 b.d=1680:=by have:=Int.mul_tdiv_add_tmod 1680 b.d;omega
 rw[<-IT]
 unfold bg
 generalize Int.tdiv 1680 a.d=j at B⊢
 generalize Int.tdiv 1680 b.d=k at F⊢
 have Y:0<j:=by
  rcases Int.lt_trichotomy j 0 with h|h|h
  ·have:=Int.mul_neg_of_pos_of_neg (by omega:0<a.d) h;omega
  ·subst h;simp at B
  exact h
 have Z:0<k:=by
  rcases Int.lt_trichotomy k 0 with h|h|h
  ·have:=Int.mul_neg_of_pos_of_neg (by omega:0<b.d) h;omega
  ·subst h;simp at F
  exact h
 have pc:0<j*k:=Int.mul_pos Y Z
 have G:a.n*b.d*(j*k)=(a.n*j)*1680:=by rw[<-F];simp only[Int.mul_assoc,Int.mul_comm,Int.mul_left_comm]
 have M:b.n*a.d*(j*k)=(b.n*k)*1680:=by rw[<-B];simp only[Int.mul_assoc,Int.mul_comm,Int.mul_left_comm]
 have l1:a.n*b.d<b.n*a.d↔a.n*j<b.n*k:=by rw[<-Int.mul_lt_mul_right pc,G,M];omega
 have U:b.n*a.d<a.n*b.d↔b.n*k<a.n*j:=by rw[<-Int.mul_lt_mul_right pc,G,M];omega
 unfold ga
 simp only[l1,U]
def tK(t:az):List Int:=[bg t.start,t.part,num t.aU,t.aU.step,bg t.length]
def tS:List Bool:=[true,false,false,false,true]
def lf(t:az):Prop:=bQ t.start/\(0<=t.part/\t.part<=1000000)/\cd t.aU/\bQ t.length
def ZX{a b:az}(N:lf a)(O:lf b):FM (a,b,())=some (iw tS tK a b):=by
 obtain⟨B,U,j,F⟩:=N
 obtain⟨G,Y,k,M⟩:=O
 have Z:=rP j
 have aa:=rP k
 have ab:=j.1
 have ad:=k.1
 have e:∀{p:aV},cd p->xf p=some (num p):=λ{p} h=>by
  unfold xf
  rw[qf,if_pos h,af]
 unfold FM
 dsimp only
 rw[Br B.1 G.1,af,Br F.1 M.1,af,aE (by omega),e j,af,e k,af,aE (by omega),aE (by omega),yr _ (by simp),af,CU B G,CU F M]
 rfl
def r8:(List az×Unit)->Option (List az):=sy (λ_=>lf) (λ_=>iw tS tK)
def Bc:(List ak×List (Int×Int))->Option (List ak):=sy oO (λat_=>cC (nK at_))
def vA(x y:Int):qh (x,y)=some (ga x y):=by
 unfold qh zU ga
 dsimp only
 rw[af,af,aj (by simp),aj (by simp)]
 simp only[vZ,ea]
 split
 ·rfl
 split<;>rfl
def nT(w:aw):List Int:=[bg w.start,w.bp,num w.aU,w.id]
def vh:List Bool:=[true,false,false,true]
def mO(w:aw):Prop:=bQ w.start/\(0<=w.bp/\w.bp<=1000000)/\cd w.aU
def aa3{a b:aw}(G:mO a)(M:mO b):E6 (a,b)=some (iw vh nT a b):=by
 obtain⟨j,N,k⟩:=G
 obtain⟨B,O,F⟩:=M
 have U:=rP k
 have Y:=rP F
 unfold E6
 dsimp only
 rw[Br j.1 B.1,af,qf,if_pos k,af,qf,if_pos F,af]
 dsimp only
 rw[aE (by omega),aE (by omega),vA,af,yr _ (by simp),af,CU j B,IT]
 rfl
open Classical in
def r9:(List (Int×aw)×Unit)->Option (List aw):=λa=>if(∀p∈a.1,mO p.2)/\gM (iw vh nT) (a.1.map (·.2))/\a.1.length<=1000000000 then some (gw (iw vh nT) (a.1.map (·.2)))else none
def jI(xs:List Int):List Int:=xs.mergeSort λa b=>decide (a<=b)
def xb(m:List (Int×Bool)):Option (List Int):=ae (m.all (λp=>ai p.1)&&leI (m.length:Int) 1000000000) (some (jI (m.map (·.1))))
end Go.Proofs.YthhlipkkjippfaaGreatDoor
namespace Go.Proofs
open Go.Shelf
def Tryz.Ee:Go.Shelf.Ren:=⟨λ|7=>206|10=>276|n=>n,λ|23=>54|26=>3|3=>4|28=>208|0=>0|27=>207|33=>189|4=>4|n=>n,λ|n=>n⟩
def Tryz.KG:Go.Proofs.SlLaysZI.n7 Tryz.prog Tryz.Ee:={
 mixed:=by kernel_rfl
 f7:=⟨Tryz.f206.name,by decide,Tryz.func206.trans (dn some (by kernel_rfl))⟩
 f10:=⟨Tryz.f276.name,by decide,Tryz.func276.trans (dn some (by kernel_rfl))⟩
 t0:=Tryz.underlying0
 a0:=Tryz.isAgg0
 z0:=Tryz.sizeOf0
 v0:=Tryz.zeroValue0
 t4:=Tryz.underlying4
 a4:=Tryz.isAgg4
 z4:=Tryz.sizeOf4
 v4:=Tryz.zeroValue4
 t23:=Tryz.underlying54
 a23:=Tryz.isAgg54
 z23:=Tryz.sizeOf54
 v23:=Tryz.zeroValue54
 t26:=Tryz.underlying3
 a26:=Tryz.isAgg3
 z26:=Tryz.sizeOf3
 v26:=Tryz.zeroValue3
 t27:=Tryz.underlying207
 a27:=Tryz.isAgg207
 z27:=Tryz.sizeOf207
 v27:=Tryz.zeroValue207
 t28:=Tryz.underlying208
 a28:=Tryz.isAgg208
 z28:=Tryz.sizeOf208
 v28:=Tryz.zeroValue208
 t33:=Tryz.underlying189
 a33:=Tryz.isAgg189
 z33:=Tryz.sizeOf189
 v33:=Tryz.zeroValue189}
def Tryz.NR:Go.Shelf.Ren:=⟨λ|6=>205|8=>274|9=>275|11=>303|13=>161|12=>304|23=>249|24=>250|14=>324|15=>325|16=>326|17=>327|18=>328|19=>329|20=>330|21=>331|22=>332|25=>338|26=>288|27=>289|28=>339|29=>340|30=>260|31=>342|n=>n,λ|26=>3|28=>208|24=>37|0=>0|3=>3|37=>234|48=>290|50=>292|4=>4|40=>284|39=>283|45=>221|5=>5|9=>9|51=>311|55=>315|57=>327|58=>309|33=>189|n=>n,λ|n=>n⟩
def Tryz.Zy:Go.Proofs.SlLaysZI.n6 Tryz.prog Tryz.NR:={
 mixed:=by kernel_rfl
 f6:=⟨Tryz.f205.name,by decide,Tryz.func205.trans (dn some (by kernel_rfl))⟩
 f8:=⟨Tryz.f274.name,by decide,Tryz.func274.trans (dn some (by kernel_rfl))⟩
 f11:=⟨Tryz.f303.name,by decide,Tryz.func303.trans (dn some (by kernel_rfl))⟩
 t0:=Tryz.underlying0
 a0:=Tryz.isAgg0
 z0:=Tryz.sizeOf0
 v0:=Tryz.zeroValue0
 t24:=Tryz.underlying37
 a24:=Tryz.isAgg37
 z24:=Tryz.sizeOf37
 v24:=Tryz.zeroValue37
 t26:=Tryz.underlying3
 a26:=Tryz.isAgg3
 z26:=Tryz.sizeOf3
 v26:=Tryz.zeroValue3
 t28:=Tryz.underlying208
 a28:=Tryz.isAgg208
 z28:=Tryz.sizeOf208
 v28:=Tryz.zeroValue208
 i26:=by kernel_rfl}
def Tryz.Zq:Go.Shelf.Ren:=⟨λ|5=>275|8=>161|7=>304|19=>249|20=>250|10=>324|11=>325|12=>326|13=>327|14=>328|15=>329|16=>330|17=>331|18=>332|30=>338|31=>288|32=>289|33=>339|34=>340|35=>260|40=>342|n=>n,λ|23=>37|25=>3|3=>3|32=>234|22=>37|0=>0|44=>290|46=>292|4=>4|36=>284|35=>283|41=>221|5=>5|9=>9|53=>311|57=>315|63=>327|64=>309|n=>n,λ|n=>n⟩
def Tryz.sortInt:Go.Proofs.SlLaysM.n5 Tryz.prog Tryz.Zq:={
 mixed:=by kernel_rfl
 f5:=⟨Tryz.f275.name,by decide,Tryz.func275.trans (dn some (by kernel_rfl))⟩
 f7:=⟨Tryz.f304.name,by decide,Tryz.func304.trans (dn some (by kernel_rfl))⟩
 f8:=Tryz.func161.trans (dn some (by kernel_rfl))
 f10:=⟨Tryz.f324.name,by decide,Tryz.func324.trans (dn some (by kernel_rfl))⟩
 f11:=⟨Tryz.f325.name,by decide,Tryz.func325.trans (dn some (by kernel_rfl))⟩
 f12:=⟨Tryz.f326.name,by decide,Tryz.func326.trans (dn some (by kernel_rfl))⟩
 f13:=⟨Tryz.f327.name,by decide,Tryz.func327.trans (dn some (by kernel_rfl))⟩
 f14:=⟨Tryz.f328.name,by decide,Tryz.func328.trans (dn some (by kernel_rfl))⟩
 f15:=⟨Tryz.f329.name,by decide,Tryz.func329.trans (dn some (by kernel_rfl))⟩
 f16:=⟨Tryz.f330.name,by decide,Tryz.func330.trans (dn some (by kernel_rfl))⟩
 f17:=⟨Tryz.f331.name,by decide,Tryz.func331.trans (dn some (by kernel_rfl))⟩
 f18:=⟨Tryz.f332.name,by decide,Tryz.func332.trans (dn some (by kernel_rfl))⟩
 f19:=Tryz.func249.trans (dn some (by kernel_rfl))
 f20:=Tryz.func250.trans (dn some (by kernel_rfl))
 f30:=⟨Tryz.f338.name,by decide,Tryz.func338.trans (dn some (by kernel_rfl))⟩
 f31:=Tryz.func288.trans (dn some (by kernel_rfl))
 f32:=Tryz.func289.trans (dn some (by kernel_rfl))
 f33:=⟨Tryz.f339.name,by decide,Tryz.func339.trans (dn some (by kernel_rfl))⟩
 f34:=⟨Tryz.f340.name,by decide,Tryz.func340.trans (dn some (by kernel_rfl))⟩
 f35:=⟨Tryz.f260.name,by decide,Tryz.func260.trans (dn some (by kernel_rfl))⟩
 f40:=⟨Tryz.f342.name,by decide,Tryz.func342.trans (dn some (by kernel_rfl))⟩
 t0:=Tryz.underlying0
 a0:=Tryz.isAgg0
 z0:=Tryz.sizeOf0
 v0:=Tryz.zeroValue0
 t3:=Tryz.underlying3
 a3:=Tryz.isAgg3
 z3:=Tryz.sizeOf3
 v3:=Tryz.zeroValue3
 t4:=Tryz.underlying4
 a4:=Tryz.isAgg4
 z4:=Tryz.sizeOf4
 v4:=Tryz.zeroValue4
 t5:=Tryz.underlying5
 a5:=Tryz.isAgg5
 z5:=Tryz.sizeOf5
 v5:=Tryz.zeroValue5
 t9:=Tryz.underlying9
 a9:=Tryz.isAgg9
 z9:=Tryz.sizeOf9
 v9:=Tryz.zeroValue9
 t22:=Tryz.underlying37
 a22:=Tryz.isAgg37
 z22:=Tryz.sizeOf37
 v22:=Tryz.zeroValue37
 t23:=Tryz.underlying37
 a23:=Tryz.isAgg37
 z23:=Tryz.sizeOf37
 v23:=Tryz.zeroValue37
 t25:=Tryz.underlying3
 a25:=Tryz.isAgg3
 z25:=Tryz.sizeOf3
 v25:=Tryz.zeroValue3
 t32:=Tryz.underlying234
 a32:=Tryz.isAgg234
 z32:=Tryz.sizeOf234
 v32:=Tryz.zeroValue234
 t35:=Tryz.underlying283
 a35:=Tryz.isAgg283
 z35:=Tryz.sizeOf283
 v35:=Tryz.zeroValue283
 t36:=Tryz.underlying284
 a36:=Tryz.isAgg284
 z36:=Tryz.sizeOf284
 v36:=Tryz.zeroValue284
 t41:=Tryz.underlying221
 a41:=Tryz.isAgg221
 z41:=Tryz.sizeOf221
 v41:=Tryz.zeroValue221
 t44:=Tryz.underlying290
 a44:=Tryz.isAgg290
 z44:=Tryz.sizeOf290
 v44:=Tryz.zeroValue290
 t46:=Tryz.underlying292
 a46:=Tryz.isAgg292
 z46:=Tryz.sizeOf292
 v46:=Tryz.zeroValue292
 t53:=Tryz.underlying311
 a53:=Tryz.isAgg311
 z53:=Tryz.sizeOf311
 v53:=Tryz.zeroValue311
 t57:=Tryz.underlying315
 a57:=Tryz.isAgg315
 z57:=Tryz.sizeOf315
 v57:=Tryz.zeroValue315
 t63:=Tryz.underlying327
 a63:=Tryz.isAgg327
 z63:=Tryz.sizeOf327
 v63:=Tryz.zeroValue327
 t64:=Tryz.underlying309
 a64:=Tryz.isAgg309
 z64:=Tryz.sizeOf309
 v64:=Tryz.zeroValue309}
end Go.Proofs
namespace Go.Proofs.YthhlipkkjippfaaGreatDoor
open Go Go.ag bP
open Go.Maps Go.Sort Go.Shelf Go.RowKit
set_option maxRecDepth 10000
@[reducible] def nF:mP:=⟨False⟩
attribute [local instance] ch nF
def R0:Value->Option (DataW Unit×List MemPlace):=λ_=>some (.lit (.bool true),[])
def VH{w:World}{b G:Nat}{j:Array MapEntry}{xs:List Int}(M:dZ w.heap[b]? (j,G))(U:j.size=xs.length)(N:∀(i:Nat)(e:MapEntry) x,j[i]?=some e->xs[i]?=some x->e.key=.int .i64 x)(aa:∀x∈xs,-9223372036854775808<=x/\x<=9223372036854775807)(ad:xs.length<=1000000000) :
  ∃D0:DataW Unit,w.ownsMap Tryz.prog 3 R0 b xs.length D0/\(intKeys D0).Perm xs/\Maps.size D0=xs.length:=by
 have ab:∀x∈xs,(Lit.int .i64 x).wf=true:=λx k=>WalkArith.wf_i64 (by have:=aa x k;omega)
 have Z:∀e∈j.toList,∃x∈xs,e.key=.int .i64 x:=by
  intro e B
  obtain⟨i,hi,rfl⟩:=gT.1 B
  have Y:i<j.size:=by simpa using hi
  have k:xs[i]?=some xs[i]:=c3 (by omega)
  exact⟨_,dk k,N i _ _ (by simp[Y]) k⟩
 have O:∀e∈j.toList,∀x∈xs,e.key=.int .i64 x->WideElems.rd Tryz.prog 3 R0 e=some (.int .i64 x,.lit (.bool true)):=by
  intro e B x k F
  simp[WideElems.rd,F,keyOf_int_mk Tryz.underlying3 (ab x k),R0]
 refine⟨_,⟨j,G,M.1,⟨by rw[U];unfold maxLen;omega,M.2,λe B=>?_⟩,by omega,rfl⟩,?_,?_⟩
 ·obtain⟨x,k,F⟩:=Z e B
  exact⟨_,O e B x k F⟩
 ·show(((j.toList.map (WideElems.rg Tryz.prog 3 R0)).foldr DataW.insert []).map λp=>Go.intOf p.1).Perm xs
  refine((WideShapes.sorted_perm _).map _).trans ?_
  have:(j.toList.map (WideElems.rg Tryz.prog 3 R0)).map (λp=>Go.intOf p.1)=xs:=by
   apply hW
   intro i
   rw[et,et]
   by_cases hi:i<j.size
   ·have B:j.toList[i]?=some j[i]:=by simp[hi]
    have k:xs[i]?=some xs[i]:=c3 (by omega)
    have F:=N i j[i] xs[i] (by simp[hi]) k
    have:=O j[i] (dk B) _ (dk k) F
    rw[B,k]
    simp[WideElems.rg,this,Go.intOf]
   rw[hF (by simp;omega),hF (by omega)];rfl
  rw[this]
 show((j.toList.map (WideElems.rg Tryz.prog 3 R0)).foldr DataW.insert []).length=xs.length
 rw[(WideShapes.sorted_perm _).length_eq];simp[U]
def Zp{xs ys:List Int}(h:xs.Perm ys):jI xs=jI ys:=mergeSort_of_perm_i h
def YV{w:World}{I:ay}{B g:Nat}{cur:Array Value}{e:TypeId}{Y:Nat×Nat}(F:du w I)(O:I.dY g)(ab:B<=g)(aa:w.heap[g]?=some (.cells cur e Y)) :
  du w (I.dH g cur.toList)/\fD B I (I.dH g cur.toList):=by
 have G:∀b,b≠g->(I.dH g cur.toList).cell b=I.cell b:=λb k=>by funext o;simp[ay.dH,k]
 have N:I.le (I.dH g cur.toList):=⟨λb o v j=>by
  have k:b≠g:=by rintro rfl;rw[O.1 o]at j;cases j
  rw[G b k];exact j,λ_ _ h=>h,λ_ h=>h⟩
 refine⟨⟨λb o v j=>?_,λb U j=>F.mp b U j,F.df,λg d Z=>(F.dz g d Z).mono N⟩,.of N (λb k=>G b (by omega)) (λ_ _=>rfl)⟩
 by_cases k:b=g
 ·subst k
  simp only[ay.dH,hK]at j
  cases M:cur[o]? with
  |none=>simp[M,O.1 o]at j
  |some x=>simp[M]at j;subst j;simp[World.cell?,aa,M]
 rw[G b k]at j;exact F.cell b o v j
def Zz(m:Nat):AnyZI.SortsIn Tryz.prog Tryz.NR Fence.wide m:=
 ⟨λoe off j G W k B F=>vi.2 (AnyM.slices_Sort_int Tryz.sortInt oe off j G W k B F),
  λp j W=>vi.2 (AnyM.slices_Sort_int_none Tryz.sortInt p j W)⟩
def SV(xs:List Int)(vs:List D)(aX:∀x∈xs,-9223372036854775808<=x/\x<=9223372036854775807)(aQ:xs.length<=1000000000) :
  fE Tryz.prog 205 [.aD 276 [.box (.map (xs.map enc) vs)]] (.slice 1 ((jI xs).map enc)):=by
 intro w I aq F ak aU
 obtain⟨v,rfl⟩:∃v,aq = #[v]:=by
  match aq,ak with
  | ⟨[a]⟩,_=>exact⟨a,rfl⟩
 have aC:=aU 0 v _ rfl rfl
 obtain⟨p,rfl,aA⟩:∃p,v=.func (.func 276) #[] #[p]/\Rd I p (.box (.map (xs.map enc) vs)):=by
  generalize xs.map (enc:Int->D)=ao at aC⊢
  cases aC with
  |aD f ps ds N Y=>
   match ps,N with
   | ⟨[p]⟩,_=>exact⟨p,rfl,Y 0 p _ rfl rfl⟩
 obtain⟨b,M,rfl,ai,af⟩:∃b M,p=.pointer (some ⟨b,0,none⟩)/\w.cell? ⟨b,0,none⟩=some (.map M)/\Rd I (.map M) (.map (xs.map enc) vs):=by
  generalize xs.map (enc:Int->D)=ao at aA⊢
  cases aA with
  |box b d val N Y ah=>
   have au:=Y 0 (by simp[D.cells])
   have ad:=ah 0 _ rfl
   obtain⟨M,aR⟩:∃M,val 0=.map M:=by
    generalize val 0=z at ad
    cases ad<;>exact⟨_,rfl⟩
   rw[aR]at au ad
   exact⟨b,M,rfl,F.cell _ _ _ au,ad⟩
 have av:b<w.heap.size:=World.block_lt_of_cell? w ⟨b,0,none⟩ ai
 have aF:∀(S:List Int->Prop)(ab:Nat),ab<=1000000000->SeqGives Fence.wide 2 Tryz.prog 276 #[.pointer (some ⟨b,0,none⟩)] encZ S ab w->(∀j,S j->jI j=jI xs) ->
   Calls Tryz.prog 205 #[.func (.func 276) #[] #[.pointer (some ⟨b,0,none⟩)]] w λe w'=>∃v J,e=.returned v/\dN w.heap.size w w'/\fD w.heap.size I J/\du w' J/\Rd J v (.slice 1 ((jI xs).map enc)):=by
  intro S ab bc aV aK
  have ar:=AnyZI.sorted_in Tryz.Zy Fence.wide 5 trivial trivial trivial trivial rfl (by omega) (Zz _) (enters_of Tryz.func275 (by kernel_rfl) rfl) 276 #[.pointer (some ⟨b,0,none⟩)] trivial (enters_of Tryz.func276 (by kernel_rfl) rfl) S ab (by unfold maxLen;omega) (by omega) w aV
  change CallsIn _ _ Tryz.prog 205 _ _ _ at ar
  refine((vi (n:=5)).1 ar).mono ?_
  rintro e w' ⟨v,j,rfl,aL,aa,_,aM⟩
  have an:=aK j aL
  unfold jI at an
  have ak:(jI xs).length=xs.length:=by unfold jI;rw[(va _ _).length_eq]
  change j.mergeSort leI=jI xs at an
  rw[an]at aa
  generalize jI xs=ys at aa ak
  obtain⟨n,aa⟩:∃n,w'.ownsRow w.heap.size 3 1 v n (ys.map encZ):=⟨_,aa⟩
  have Z:dN w.heap.size w w':=dN.of aM λh=>h.elim
  have aB:du w' I:=⟨λb o u O=>(la (w:=w) (a:=⟨b,o,none⟩) (Z.block b (F.lt O))).trans (F.cell b o u O),λb G O=>by exact dZ.to (Z.block b (F.ny O)) (F.mp b G O),λb ae=>(Z.block b (F.kI ae)).trans (F.df b ae),F.dz⟩
  obtain⟨al,⟨rfl,aJ⟩| ⟨g,ba,cur,rfl,aw,aj,aS,aN,bd,aW⟩⟩:=aa
  ·have:ys=[]:=by simpa [aJ]using al
   subst this
   exact⟨_,I,rfl,Z,fD.refl _ _,aB,.kf _ _ _ (j2 _)⟩
  have aT:=F.dY aw
  obtain⟨aZ,a1⟩:=YV (B:=w.heap.size) aB aT aw aj
  refine⟨_,_,rfl,Z,a1,aZ,.slice _ _ _ _ _ _ (λk=>(cur[k]?).getD undef) (by simpa using al) aS aN (λd ae=>?_) (λk ax=>?_) (λk x U=>?_)⟩
  ·obtain⟨y,_,rfl⟩:=gj.1 ae
   simp[qU,D.cells,D.one]
  ·have:cur[k]?=some (cur[k]'(by omega)):=e7 (by omega)
   simp[ay.dH,this]
  have aP:flat (ys.map (enc:Int->D))=ys.map enc:=by
   unfold flat
   rw[sx]
   simp[qU,D.cells]
   rw[<-List.map_eq_flatMap]
   exact hE λz _=>(qU z).symm
  rw[aP]at U
  have ax:k<ys.length:=by have:=(c5.1 U).1;simpa using this
  have aE:ys[k]?=some ys[k]:=c3 ax
  have aY:x=enc ys[k]:=by simpa [aE]using U.symm
  have O:cur[k]?=some (encZ ys[k]):=by
   have N:(cur.toList.take (n*1))[k]?=(ys.map encZ)[k]?:=by rw[aW]
   rw[List.getElem?_take_of_lt (by simp at al;omega)]at N
   simpa [aE]using N
  rw[O,aY,qU]
  exact .int _ _
 cases M with
 |none=>
  have U:xs=[]:=by
   generalize az:xs.map (enc:Int->D)=ao at af
   cases af
   simpa using az
  subst U
  exact aF (λj=>j=[]) 0 (by omega) (AnyZI.keys_gives_nil (ρ:=Tryz.Ee) {Tryz.KG with} Fence.wide _ trivial rfl b w av ai) (λj h=>by rw[h])
 |some ag=>
  obtain⟨⟨G,aG⟩,N,Y,ah⟩:∃G:ME,I.mp ag=some G/\G.1.size=(xs.map (enc:Int->D)).length/\∀(i:Nat)(e:MapEntry)(d:D),G.1[i]?=some e->(xs.map (enc:Int->D))[i]?=some d->Rd I e.key d:=by
   generalize az:xs.map (enc:Int->D)=ao at af
   cases af with
   |map _ G _ _ a6 a7 bf a8 bg=>exact⟨G,a6,a7,a8⟩
  have aj:=F.mp ag (G,aG) N
  obtain⟨D0,aH,aI,bb⟩:=VH (xs:=xs) aj (by simpa using Y) (λi e x aO U=>by
   have:=ah i e (enc x) aO (by simp[U])
   rw[qU]at this
   generalize e.key=z at this
   cases this;rfl) aX aQ
  exact aF (λj=>j.Perm (intKeys D0)) (Maps.size D0) (by omega) (AnyZI.keys_gives (ρ:=Tryz.Ee) {Tryz.KG with} Fence.wide _ trivial rfl (by omega) b ag xs.length D0 w av ai aH) (λj h=>Zp (h.trans aI))
open Go.Sy
def yv:Sy.Callee:=⟨205,[.aD 276 (.box (.map (.int .i64) .bool))],[.list (.int .i64)],xb⟩
def VD:ij Tryz.prog yv:=
 ⟨Enters.of Tryz.func205 (by decide),λa r h=>(by
  change List (Int×Bool)at a
  change List Int at r
  have h:xb a=some r:=h
  unfold xb ae at h
  split at h
  ·rename_i j
   injection h with h;subst h
   simp only[db,dT,ea]at j
   obtain⟨B,M⟩:=j
   have:=SV (a.map (·.1)) (a.map λp=>D.bool p.2) (λx G=>by
    obtain⟨p,F,rfl⟩:=gj.1 G
    exact B p F) (by rw[hG];omega)
   have k:(a.map (·.1)).map (enc:Int->D)=a.map λp=>D.int .i64 p.1:=by rw[j4];rfl
   rw[k]at this
   exact this
  ·cases h),
  λt h=>cP (dT.1 (rfl:yv.args.all dV=true) t h),λt h=>cP (dT.1 (rfl:yv.res.all dV=true) t h)⟩
def RK:Bk:=⟨yv,VD⟩
end Go.Proofs.YthhlipkkjippfaaGreatDoor
namespace Go.Proofs
open Go.Shelf
def Tryz.Zr:Go.Shelf.Ren:=⟨λ|6=>272|15=>161|14=>302|28=>249|29=>250|20=>316|21=>317|22=>318|23=>319|24=>320|25=>321|26=>322|27=>323|46=>335|47=>288|48=>289|49=>336|50=>337|57=>341|n=>n,λ|22=>24|24=>126|25=>302|3=>3|39=>234|0=>0|53=>290|55=>292|4=>4|46=>284|45=>283|50=>221|5=>5|9=>9|66=>311|70=>315|76=>327|77=>309|n=>n,λ|n=>n⟩
def Tryz.NM:Go.Proofs.SlLaysF0.n6 Tryz.prog Tryz.Zr:={
 mixed:=by kernel_rfl
 f6:=⟨Tryz.f272.name,by decide,Tryz.func272.trans (dn some (by kernel_rfl))⟩
 f14:=⟨Tryz.f302.name,by decide,Tryz.func302.trans (dn some (by kernel_rfl))⟩
 f15:=Tryz.func161.trans (dn some (by kernel_rfl))
 f20:=⟨Tryz.f316.name,by decide,Tryz.func316.trans (dn some (by kernel_rfl))⟩
 f21:=⟨Tryz.f317.name,by decide,Tryz.func317.trans (dn some (by kernel_rfl))⟩
 f22:=⟨Tryz.f318.name,by decide,Tryz.func318.trans (dn some (by kernel_rfl))⟩
 f23:=⟨Tryz.f319.name,by decide,Tryz.func319.trans (dn some (by kernel_rfl))⟩
 f24:=⟨Tryz.f320.name,by decide,Tryz.func320.trans (dn some (by kernel_rfl))⟩
 f25:=⟨Tryz.f321.name,by decide,Tryz.func321.trans (dn some (by kernel_rfl))⟩
 f26:=⟨Tryz.f322.name,by decide,Tryz.func322.trans (dn some (by kernel_rfl))⟩
 f27:=⟨Tryz.f323.name,by decide,Tryz.func323.trans (dn some (by kernel_rfl))⟩
 f28:=Tryz.func249.trans (dn some (by kernel_rfl))
 f29:=Tryz.func250.trans (dn some (by kernel_rfl))
 f46:=⟨Tryz.f335.name,by decide,Tryz.func335.trans (dn some (by kernel_rfl))⟩
 f47:=Tryz.func288.trans (dn some (by kernel_rfl))
 f48:=Tryz.func289.trans (dn some (by kernel_rfl))
 f49:=⟨Tryz.f336.name,by decide,Tryz.func336.trans (dn some (by kernel_rfl))⟩
 f50:=⟨Tryz.f337.name,by decide,Tryz.func337.trans (dn some (by kernel_rfl))⟩
 f57:=⟨Tryz.f341.name,by decide,Tryz.func341.trans (dn some (by kernel_rfl))⟩
 t0:=Tryz.underlying0
 a0:=Tryz.isAgg0
 z0:=Tryz.sizeOf0
 v0:=Tryz.zeroValue0
 t3:=Tryz.underlying3
 a3:=Tryz.isAgg3
 z3:=Tryz.sizeOf3
 v3:=Tryz.zeroValue3
 t4:=Tryz.underlying4
 a4:=Tryz.isAgg4
 z4:=Tryz.sizeOf4
 v4:=Tryz.zeroValue4
 t5:=Tryz.underlying5
 a5:=Tryz.isAgg5
 z5:=Tryz.sizeOf5
 v5:=Tryz.zeroValue5
 t9:=Tryz.underlying9
 a9:=Tryz.isAgg9
 z9:=Tryz.sizeOf9
 v9:=Tryz.zeroValue9
 t22:=Tryz.underlying24
 a22:=Tryz.isAgg24
 z22:=Tryz.sizeOf24
 v22:=Tryz.zeroValue24
 t25:=Tryz.underlying302
 a25:=Tryz.isAgg302
 z25:=Tryz.sizeOf302
 v25:=Tryz.zeroValue302
 t39:=Tryz.underlying234
 a39:=Tryz.isAgg234
 z39:=Tryz.sizeOf234
 v39:=Tryz.zeroValue234
 t45:=Tryz.underlying283
 a45:=Tryz.isAgg283
 z45:=Tryz.sizeOf283
 v45:=Tryz.zeroValue283
 t46:=Tryz.underlying284
 a46:=Tryz.isAgg284
 z46:=Tryz.sizeOf284
 v46:=Tryz.zeroValue284
 t50:=Tryz.underlying221
 a50:=Tryz.isAgg221
 z50:=Tryz.sizeOf221
 v50:=Tryz.zeroValue221
 t53:=Tryz.underlying290
 a53:=Tryz.isAgg290
 z53:=Tryz.sizeOf290
 v53:=Tryz.zeroValue290
 t55:=Tryz.underlying292
 a55:=Tryz.isAgg292
 z55:=Tryz.sizeOf292
 v55:=Tryz.zeroValue292
 t66:=Tryz.underlying311
 a66:=Tryz.isAgg311
 z66:=Tryz.sizeOf311
 v66:=Tryz.zeroValue311
 t70:=Tryz.underlying315
 a70:=Tryz.isAgg315
 z70:=Tryz.sizeOf315
 v70:=Tryz.zeroValue315
 t76:=Tryz.underlying327
 a76:=Tryz.isAgg327
 z76:=Tryz.sizeOf327
 v76:=Tryz.zeroValue327
 t77:=Tryz.underlying309
 a77:=Tryz.isAgg309
 z77:=Tryz.sizeOf309
 v77:=Tryz.zeroValue309}
def Tryz.Zt:Go.Shelf.Ren:=⟨λ|6=>75|15=>161|14=>160|28=>249|29=>250|20=>241|21=>242|22=>243|23=>244|24=>245|25=>246|26=>247|27=>248|46=>287|47=>288|48=>289|49=>290|50=>291|57=>311|n=>n,λ|22=>44|24=>62|25=>160|3=>3|39=>234|0=>0|53=>290|55=>292|4=>4|46=>284|45=>283|50=>221|5=>5|9=>9|66=>311|70=>315|76=>327|77=>309|n=>n,λ|n=>n⟩
theorem Tryz.eF:Go.Proofs.SlLaysF0.n6 Tryz.prog Tryz.Zt:={
 mixed:=by kernel_rfl
 f6:=⟨Tryz.f75.name,by decide,Tryz.func75.trans (dn some (by kernel_rfl))⟩
 f14:=⟨Tryz.f160.name,by decide,Tryz.func160.trans (dn some (by kernel_rfl))⟩
 f15:=Tryz.func161.trans (dn some (by kernel_rfl))
 f20:=⟨Tryz.f241.name,by decide,Tryz.func241.trans (dn some (by kernel_rfl))⟩
 f21:=⟨Tryz.f242.name,by decide,Tryz.func242.trans (dn some (by kernel_rfl))⟩
 f22:=⟨Tryz.f243.name,by decide,Tryz.func243.trans (dn some (by kernel_rfl))⟩
 f23:=⟨Tryz.f244.name,by decide,Tryz.func244.trans (dn some (by kernel_rfl))⟩
 f24:=⟨Tryz.f245.name,by decide,Tryz.func245.trans (dn some (by kernel_rfl))⟩
 f25:=⟨Tryz.f246.name,by decide,Tryz.func246.trans (dn some (by kernel_rfl))⟩
 f26:=⟨Tryz.f247.name,by decide,Tryz.func247.trans (dn some (by kernel_rfl))⟩
 f27:=⟨Tryz.f248.name,by decide,Tryz.func248.trans (dn some (by kernel_rfl))⟩
 f28:=Tryz.func249.trans (dn some (by kernel_rfl))
 f29:=Tryz.func250.trans (dn some (by kernel_rfl))
 f46:=⟨Tryz.f287.name,by decide,Tryz.func287.trans (dn some (by kernel_rfl))⟩
 f47:=Tryz.func288.trans (dn some (by kernel_rfl))
 f48:=Tryz.func289.trans (dn some (by kernel_rfl))
 f49:=⟨Tryz.f290.name,by decide,Tryz.func290.trans (dn some (by kernel_rfl))⟩
 f50:=⟨Tryz.f291.name,by decide,Tryz.func291.trans (dn some (by kernel_rfl))⟩
 f57:=⟨Tryz.f311.name,by decide,Tryz.func311.trans (dn some (by kernel_rfl))⟩
 t0:=Tryz.underlying0
 a0:=Tryz.isAgg0
 z0:=Tryz.sizeOf0
 v0:=Tryz.zeroValue0
 t3:=Tryz.underlying3
 a3:=Tryz.isAgg3
 z3:=Tryz.sizeOf3
 v3:=Tryz.zeroValue3
 t4:=Tryz.underlying4
 a4:=Tryz.isAgg4
 z4:=Tryz.sizeOf4
 v4:=Tryz.zeroValue4
 t5:=Tryz.underlying5
 a5:=Tryz.isAgg5
 z5:=Tryz.sizeOf5
 v5:=Tryz.zeroValue5
 t9:=Tryz.underlying9
 a9:=Tryz.isAgg9
 z9:=Tryz.sizeOf9
 v9:=Tryz.zeroValue9
 t22:=Tryz.underlying44
 a22:=Tryz.isAgg44
 z22:=Tryz.sizeOf44
 v22:=Tryz.zeroValue44
 t25:=Tryz.underlying160
 a25:=Tryz.isAgg160
 z25:=Tryz.sizeOf160
 v25:=Tryz.zeroValue160
 t39:=Tryz.underlying234
 a39:=Tryz.isAgg234
 z39:=Tryz.sizeOf234
 v39:=Tryz.zeroValue234
 t45:=Tryz.underlying283
 a45:=Tryz.isAgg283
 z45:=Tryz.sizeOf283
 v45:=Tryz.zeroValue283
 t46:=Tryz.underlying284
 a46:=Tryz.isAgg284
 z46:=Tryz.sizeOf284
 v46:=Tryz.zeroValue284
 t50:=Tryz.underlying221
 a50:=Tryz.isAgg221
 z50:=Tryz.sizeOf221
 v50:=Tryz.zeroValue221
 t53:=Tryz.underlying290
 a53:=Tryz.isAgg290
 z53:=Tryz.sizeOf290
 v53:=Tryz.zeroValue290
 t55:=Tryz.underlying292
 a55:=Tryz.isAgg292
 z55:=Tryz.sizeOf292
 v55:=Tryz.zeroValue292
 t66:=Tryz.underlying311
 a66:=Tryz.isAgg311
 z66:=Tryz.sizeOf311
 v66:=Tryz.zeroValue311
 t70:=Tryz.underlying315
 a70:=Tryz.isAgg315
 z70:=Tryz.sizeOf315
 v70:=Tryz.zeroValue315
 t76:=Tryz.underlying327
 a76:=Tryz.isAgg327
 z76:=Tryz.sizeOf327
 v76:=Tryz.zeroValue327
 t77:=Tryz.underlying309
 a77:=Tryz.isAgg309
 z77:=Tryz.sizeOf309
 v77:=Tryz.zeroValue309}
def Tryz.Zu:Go.Shelf.Ren:=⟨λ|6=>189|15=>161|14=>263|28=>249|29=>250|20=>293|21=>294|22=>295|23=>296|24=>297|25=>298|26=>299|27=>300|46=>312|47=>288|48=>289|49=>313|50=>314|57=>334|n=>n,λ|22=>136|24=>170|25=>174|3=>3|39=>234|0=>0|53=>290|55=>292|4=>4|46=>284|45=>283|50=>221|5=>5|9=>9|66=>311|70=>315|76=>327|77=>309|n=>n,λ|n=>n⟩
def Tryz.NP:Go.Proofs.SlLaysF0.n6 Tryz.prog Tryz.Zu:={
 mixed:=by kernel_rfl
 f6:=⟨Tryz.f189.name,by decide,Tryz.func189.trans (dn some (by kernel_rfl))⟩
 f14:=⟨Tryz.f263.name,by decide,Tryz.func263.trans (dn some (by kernel_rfl))⟩
 f15:=Tryz.func161.trans (dn some (by kernel_rfl))
 f20:=⟨Tryz.f293.name,by decide,Tryz.func293.trans (dn some (by kernel_rfl))⟩
 f21:=⟨Tryz.f294.name,by decide,Tryz.func294.trans (dn some (by kernel_rfl))⟩
 f22:=⟨Tryz.f295.name,by decide,Tryz.func295.trans (dn some (by kernel_rfl))⟩
 f23:=⟨Tryz.f296.name,by decide,Tryz.func296.trans (dn some (by kernel_rfl))⟩
 f24:=⟨Tryz.f297.name,by decide,Tryz.func297.trans (dn some (by kernel_rfl))⟩
 f25:=⟨Tryz.f298.name,by decide,Tryz.func298.trans (dn some (by kernel_rfl))⟩
 f26:=⟨Tryz.f299.name,by decide,Tryz.func299.trans (dn some (by kernel_rfl))⟩
 f27:=⟨Tryz.f300.name,by decide,Tryz.func300.trans (dn some (by kernel_rfl))⟩
 f28:=Tryz.func249.trans (dn some (by kernel_rfl))
 f29:=Tryz.func250.trans (dn some (by kernel_rfl))
 f46:=⟨Tryz.f312.name,by decide,Tryz.func312.trans (dn some (by kernel_rfl))⟩
 f47:=Tryz.func288.trans (dn some (by kernel_rfl))
 f48:=Tryz.func289.trans (dn some (by kernel_rfl))
 f49:=⟨Tryz.f313.name,by decide,Tryz.func313.trans (dn some (by kernel_rfl))⟩
 f50:=⟨Tryz.f314.name,by decide,Tryz.func314.trans (dn some (by kernel_rfl))⟩
 f57:=⟨Tryz.f334.name,by decide,Tryz.func334.trans (dn some (by kernel_rfl))⟩
 t0:=Tryz.underlying0
 a0:=Tryz.isAgg0
 z0:=Tryz.sizeOf0
 v0:=Tryz.zeroValue0
 t3:=Tryz.underlying3
 a3:=Tryz.isAgg3
 z3:=Tryz.sizeOf3
 v3:=Tryz.zeroValue3
 t4:=Tryz.underlying4
 a4:=Tryz.isAgg4
 z4:=Tryz.sizeOf4
 v4:=Tryz.zeroValue4
 t5:=Tryz.underlying5
 a5:=Tryz.isAgg5
 z5:=Tryz.sizeOf5
 v5:=Tryz.zeroValue5
 t9:=Tryz.underlying9
 a9:=Tryz.isAgg9
 z9:=Tryz.sizeOf9
 v9:=Tryz.zeroValue9
 t22:=Tryz.underlying136
 a22:=Tryz.isAgg136
 z22:=Tryz.sizeOf136
 v22:=Tryz.zeroValue136
 t25:=Tryz.underlying174
 a25:=Tryz.isAgg174
 z25:=Tryz.sizeOf174
 v25:=Tryz.zeroValue174
 t39:=Tryz.underlying234
 a39:=Tryz.isAgg234
 z39:=Tryz.sizeOf234
 v39:=Tryz.zeroValue234
 t45:=Tryz.underlying283
 a45:=Tryz.isAgg283
 z45:=Tryz.sizeOf283
 v45:=Tryz.zeroValue283
 t46:=Tryz.underlying284
 a46:=Tryz.isAgg284
 z46:=Tryz.sizeOf284
 v46:=Tryz.zeroValue284
 t50:=Tryz.underlying221
 a50:=Tryz.isAgg221
 z50:=Tryz.sizeOf221
 v50:=Tryz.zeroValue221
 t53:=Tryz.underlying290
 a53:=Tryz.isAgg290
 z53:=Tryz.sizeOf290
 v53:=Tryz.zeroValue290
 t55:=Tryz.underlying292
 a55:=Tryz.isAgg292
 z55:=Tryz.sizeOf292
 v55:=Tryz.zeroValue292
 t66:=Tryz.underlying311
 a66:=Tryz.isAgg311
 z66:=Tryz.sizeOf311
 v66:=Tryz.zeroValue311
 t70:=Tryz.underlying315
 a70:=Tryz.isAgg315
 z70:=Tryz.sizeOf315
 v70:=Tryz.zeroValue315
 t76:=Tryz.underlying327
 a76:=Tryz.isAgg327
 z76:=Tryz.sizeOf327
 v76:=Tryz.zeroValue327
 t77:=Tryz.underlying309
 a77:=Tryz.isAgg309
 z77:=Tryz.sizeOf309
 v77:=Tryz.zeroValue309}
end Go.Proofs
namespace Go.Proofs.YthhlipkkjippfaaGreatDoor
open Go Go.ag Go.Sy bP Go.RowKit Go.Sort
attribute [local instance] ch nF
set_option maxRecDepth 10000
theorem Hk(x:aw):aG.cells 16 x=[.int .i64 x.id,.int .i64 x.bp,.int .i64 x.bO,.int .i64 x.start.n,.int .i64 x.start.d,.int .i64 x.length.n,.int .i64 x.length.d,.int .i64 x.aU.step,.int .i64 x.aU.alter,.int .i64 x.aU.bm]:=rfl
def aa6(x y:aw)(h:aG.cells 16 x=aG.cells 16 y):x=y:=by
 rw[Hk,Hk]at h
 obtain⟨j,G,M,⟨N,O⟩,⟨U,Y⟩,k,B,F⟩:=x
 obtain⟨Z,ae,af,⟨ag,ah⟩,⟨ai,aj⟩,aa,ab,ad⟩:=y
 simp only[o3,D.int.injEq,abt,and_true]at h
 obtain⟨rfl,rfl,rfl,rfl,rfl,rfl,rfl,rfl,rfl,rfl⟩:=h
 rfl
instance abk:bP aw:=C3 16 (⟨0,0,0,⟨0,0⟩,⟨0,0⟩,⟨0,0,0⟩⟩:aw) aa6
theorem TF(x:aw):enc x=.agg [.int .i64 x.id,.int .i64 x.bp,.int .i64 x.bO,.int .i64 x.start.n,.int .i64 x.start.d,.int .i64 x.length.n,.int .i64 x.length.d,.int .i64 x.aU.step,.int .i64 x.aU.alter,.int .i64 x.aU.bm]:=rfl
theorem Zf:bP.size aw=10:=rfl
theorem Z5:jJ 136=some ⟨1,24,[.slice 10 []],.slice 170⟩:=rfl
theorem Z6:jJ 170=some ⟨10,80,[.int .i64 0,.int .i64 0,.int .i64 0,.int .i64 0,.int .i64 0,.int .i64 0,.int .i64 0,.int .i64 0,.int .i64 0,.int .i64 0],.struct [(0,3),(1,3),(2,3),(3,58),(5,58),(7,60)]⟩:=rfl
theorem Z3:jJ 176=some ⟨1,8,[.map [] []],.map 3 170⟩:=rfl
theorem Z4:jJ 180=some ⟨1,8,[.iU],.jc⟩:=rfl
theorem Z0:jJ 174=some ⟨1,8,[.iU],.jc⟩:=rfl
theorem Z7:jJ 194=some ⟨1,8,[.iU],.jc⟩:=rfl
attribute [local congr] aL.IW
attribute [local simp] dP fT dA aX bN ag.get lY strip bR ag.after qT typed lR holds dJ R.ok R.bad kN eS ve nI GM xK Op.operands Call.operands dx cV fh dq sY qM fM qQ nM jC NU NV NW NX qU Jk TH TG Go.ag.th I8 I6 Th Tf Tg NC Zh EC We bx D.cells T.fS D.one gk fi iO gJ setAt fo iD mL kv mh bD dm jV iq jY jH yI arith fH rz rp eM lF se TD.agg env cD List.map eu kJ rD mu nz mapOf tL pE gd Mz MA MB MC MD MF MG MH Jm ND I9 NY sA NZ N0 N1 oQ BG gone unbox mf k9 lv lN Jl I7 NB Nq CR List.contains_cons List.contains_nil Jh TF Zf Od Oc Z5 Z6 Z3 Z4 Z0 Z7
section
variable {bc gO:Code}{tm:Tm}{mm:List (Int×aw)}
def fR(j k LP B:AO)(zs:List aw):List AO:=[j,k,.var 136 [.row 5],LP,B,.row 170 10 (zs.map enc)]
def YY{F G:Nat->Value}{j B:Tm}{LP ah:AO}(N:LP=.loop 3 13 #[7] bc gO tm .ready none)(av:ah=.loop 3 13 #[7] bc gO tm .busy none)(
   aD:∀(x:aw)(zs:List aw)(ae:AO)(ab:Nat->Value)(Z:Tm),(zs.length+1)*80<=140737488355328->(∃aK vs an,ae=AO.iter aK vs an)->∀(Y:Option Code->List AO->Prop),(∀ad,(∃v f,ad=AO.frame 8 v f)->Y none [.frame 0 F j,.frame 1 G B,.var 136 [.row 9],LP,.frame 4 ab Z,.dead,ae,.var 170 (bx (.d (enc x))),ad,.row 170 10 ((zs++[x]).map enc)]) ->
   ∀(R:bX)(w0:World)(I0:ay)(vals:Nat->Value)(ft:Tm)(Q:Exit->St->Prop),(∀e af s2,oD e=some af->sO s2 8 vals ft 3 3 13 #[7] bc gO tm af (Y af)->Q e s2) ->
    @aL _ R Tryz.prog w0 I0 13 bc ⟨kW [7] [.d (enc x)] tm,fR (.frame 0 F j) (.frame 1 G B) LP (.frame 4 ab Z) zs++[ae,.var 170 (bx (.d (enc x))),.frame 8 vals ft]⟩ (uf λs1=>∃s2,ag.Sub s1 s2/\s2.l[8]?=some (.frame 8 vals ft)/\s2.l[3]?=some LP/\@aL _ R Tryz.prog w0 I0 13 gO ⟨s2.t,s2.l.set 3 ah⟩ Q))(aB:mm.length*80<=140737488355328) :
  iP Tryz.prog 190 [.bf 3,.d (.box (.map (mm.map kE) (mm.map vE)))] [.frame 0 F j,.frame 1 G B,.var 136 [.bC 10],LP] λu l'=>∃zs ab Z,zs.Perm (mm.map (·.2))/\l'=fR (.frame 0 F j) (.frame 1 G B) LP (.frame 4 ab Z) zs:=by
 have M:cA Tryz.prog (env []):=ow trivial
 refine iP.of M (Enters.of Tryz.func190 (by decide)) Tryz.func190 rfl (by rw[Tryz.ntmps190];simp) λR aO w0 I0 vals ft Q ai=>?_
 rw[Tryz.ntmps190]
 simp only[List.length_cons,List.length_nil,List.cons_append,List.nil_append]at ai⊢
 simp only[jf]
 refine aL.sub (s':=⟨[(0,.bf 3),(1,.d (.box (.map (mm.map kE) (mm.map vE))))],fR (.frame 0 F j) (.frame 1 G B) LP (.frame 4 vals ft) []⟩) (Sub.Hy (s:=⟨[(0,.bf 3),(1,.d (.box (.map (mm.map kE) (mm.map vE))))],[.frame 0 F j,.frame 1 G B,.var 136 [.bC 10],LP,.frame 4 vals ft]⟩) 2 0 170 10 rfl rfl) ?_
 refine aL.rS M none [0,6] λK aH=>?_
 simp[xw]
 refine ep (s':=⟨[(0,.bf 3),(6,.ptr 6 0)],fR (.frame 0 F j) (.frame 1 G B) LP (.frame 4 vals ft) []++[.iter (mm.map kE) (mm.map vE) []]⟩) (by first|rfl| (simp[fR];done)) (aH _ ?_)
 refine aL.block ?_
 refine aL.V0 mm (λdone zs=>⟨[(0,.bf 3),(6,.ptr 6 0)],fR (.frame 0 F j) (.frame 1 G B) LP (.frame 4 vals ft) zs++[.iter (mm.map kE) (mm.map vE) done]⟩) (λzs e=>if zs.length<mm.length then some (.inl (zs++[e.2]):List aw⊕Unit)else none) [] (λout=>∃zs,out=.inl zs/\zs.Perm (mm.map (·.2))) ?_ (Sub.refl _) λdone zs K az aE=>?_
 ·intro l ak
  refine⟨.inl (l.map (·.2)),?_,_,rfl,ak.map _⟩
  have:∀(l:List (Int×aw))(zs:List aw),zs.length+l.length<=mm.length->iterM (λzs e=>if zs.length<mm.length then some (.inl (zs++[e.2]):List aw⊕Unit)else none) l zs=some (.inl (zs++l.map (·.2))):=by
   intro l
   induction l with
   |nil=>intro zs _;simp[iterM]
   |cons e l aG=>
    intro zs U
    simp only[List.length_cons]at U
    simp only[iterM]
    rw[if_pos (by omega)]
    simp only
    rw[aG (zs++[e.2]) (by simp;omega)]
    simp
  simpa using this l [] (by simp[ak.length_eq])
 refine aL.V8 M rfl rfl rfl rfl rfl rfl (by decide) (by decide) rfl rfl rfl rfl (λi aP vd aA aF hi=>?_) λax=>?_
 ·obtain⟨⟨k,x⟩,aj,rfl,rfl⟩:=VL aA aF
  obtain⟨o,O,_,aa⟩:=aE i _ aj hi
  have al:zs.length<mm.length:=by
   by_cases h:zs.length<mm.length
   ·exact h
   simp[h]at O
  rw[if_pos al]at O
  injection O with O
  subst O
  have aa:=λs'=>aa s' _ rfl
  dsimp only at aa
  show aL _ _ _ _ _ ⟨[(0,.bf 3),(6,.ptr 6 0)],fR (.frame 0 F j) (.frame 1 G B) LP (.frame 4 vals ft) zs++[.iter (mm.map kE) (mm.map vE) (done++[i])]⟩ _
  refine aL.block ?_
  refine aL.rS M none [0,4,6] λK aI=>?_
  simp[vI,fR,Vz,aaD,aj]
  refine ep (s':=⟨[(0,.bf 3),(4,.ptr 7 0),(6,.ptr 6 0)],fR (.frame 0 F j) (.frame 1 G B) LP (.frame 4 vals ft) zs++[.iter (mm.map kE) (mm.map vE) (done++[i]),.var 170 (bx (.d (enc x)))]⟩) (by first|rfl| (simp[fR];done)) (aI _ ?_)
  refine aL.rC M [0,6,14] λK aJ=>?_
  refine dy.seq M none 2 [0,6,11,12] (by decide) (by decide) λaN aq=>?_
  simp[fR]
  refine ep (s':=⟨[(0,.bf 3),(6,.ptr 6 0),(11,.bf 3),(12,.d (enc x))],fR (.frame 0 F j) (.frame 1 G B) LP (.frame 4 vals ft) zs++[.iter (mm.map kE) (mm.map vE) (done++[i]),.var 170 (bx (.d (enc x)))]⟩) (by first|rfl| (simp[fR];done)) (aq _ ?_)
  refine dy.bf M 3 [.d (enc x)] rfl rfl trivial (by decide) (by simp[jL]) (show _=some (AO.loop 3 13 #[7] bc gO tm .ready none) by rw[<-N];rfl) rfl (by decide) λY au=>?_
  simp only[<-N,<-av]
  refine aD x zs (.iter (mm.map kE) (mm.map vE) (done++[i])) vals ft ?_ ⟨_,_,_,rfl⟩ Y λad ⟨aM,ao,ar⟩=>au none _ (dy.fin M none ?_)
  ·have:=ka 80 (Nat.succ_le_of_lt al)
   exact hJ this aB
  subst ar
  simp
  refine ep (s':=⟨[(0,.bf 3),(6,.ptr 6 0),(14,.d (.bool false))],[.frame 0 F j,.frame 1 G B,.var 136 [.row 9],LP,.frame 4 vals ft,.dead,.iter (mm.map kE) (mm.map vE) (done++[i]),.var 170 (bx (.d (enc x))),.frame 8 aM ao,.row 170 10 ((zs++[x]).map enc)]⟩) (by first|rfl| (simp;done)) (aJ _ ?_)
  refine aL.cond (b:=false) rfl (λh=>by cases h) λh=>aL.skip (aa _ ?_)
  show ag.Sub _ ⟨[(0,.bf 3),(6,.ptr 6 0)],fR (.frame 0 F j) (.frame 1 G B) LP (.frame 4 vals ft) (zs++[x])++[.iter (mm.map kE) (mm.map vE) (done++[i])]⟩
  exact Sub.bV [0,1,2,3,4,9,6] (by decide) (by simp[ng,N]) (by simp[c6,AO.bV,T.bV,T.cZ,idx,fR,N]) (by simp[kx,T.bV,T.cZ,idx])
 obtain⟨aQ,U,aC⟩:=az (λi hi=>ax i (by simpa using hi))
 injection U with U
 subst U
 refine ai _ _ (.inr rfl) ⟨⟨[],fR (.frame 0 F j) (.frame 1 G B) LP (.frame 4 vals ft) zs⟩,?_,trivial,rfl,zs,_,_,aC,rfl⟩
 exact Sub.bV [0,1,2,3,4,5] (by decide) (by simp[ng,fR,N]) (by simp[c6,AO.bV,T.bV,T.cZ,idx,fR,N]) trivial
end
section
variable {mm:List (Int×aw)}
def YW{k:Nat->Value}{j:Tm}(au:mm.length*80<=140737488355328) :
  iP Tryz.prog 262 [.bC 10,.d (.aD 190 [.box (.map (mm.map kE) (mm.map vE))])] [.frame 0 k j] λu l'=>u=.row 2/\∃(zs:List aw)(aE:Nat->Value)(an:Tm),zs.Perm (mm.map (·.2))/\l'=[.frame 0 k j,.frame 1 aE an,.row 170 10 (zs.map enc)]:=by
 have O:cA Tryz.prog (env []):=ow trivial
 refine iP.of O (Enters.of Tryz.func262 (by decide)) Tryz.func262 rfl (by rw[Tryz.ntmps262];simp) λR ao w0 I0 vals ft Q Y=>?_
 rw[Tryz.ntmps262]
 simp only[List.length_cons,List.length_nil,List.cons_append,List.nil_append]at Y⊢
 simp only[jf]
 refine aL.rS O none [1,2] λK af=>?_
 simp
 refine ep (s':=⟨[(1,.d (.aD 190 [.box (.map (mm.map kE) (mm.map vE))])),(2,.ptr 2 0)],[.frame 0 k j,.frame 1 vals ft,.var 136 [.bC 10]]⟩) (by first|rfl| (simp;done)) (af _ ?_)
 refine aL.Gw (λs'=>∃zs:List aw,zs.Perm (mm.map (·.2))/\Sub s' ⟨[(2,.ptr 2 0)],[.frame 0 k j,.frame 1 vals ft,.var 136 [.row 3],.row 170 10 (zs.map enc)]⟩) (λ_ al=>?_) ?_
 ·refine aL.rS O none [2,6] λK af=>?_
  simp
  refine ep (s':=⟨[(2,.ptr 2 0),(6,.d (.aD 190 [.box (.map (mm.map kE) (mm.map vE))]))],[.frame 0 k j,.frame 1 vals ft,.var 136 [.bC 10]]⟩) (by first|rfl| (simp;done)) (af _ ?_)
  refine aL.block ?_
  refine aL.Yl ao (gf:=190) (caps:=[.d (.box (.map (mm.map kE) (mm.map vE)))]) rfl λbc gO aq ar K ab=>?_
  dsimp only[List.length_cons,List.length_nil]at ab⊢
  refine(YY (LP:=.loop 3 13 #[7] bc gO [(2,.ptr 2 0),(6,.d (.aD 190 [.box (.map (mm.map kE) (mm.map vE))]))] .ready none) rfl rfl ?_ au).mono ?_
  ·rintro x zs Z G B aH ⟨aI,vs,aG,ak⟩ aF aj R w0 I0 M F Q Y
   obtain⟨LP,ad⟩:∃LP,LP=AO.loop 3 13 #[7] bc gO [(2,.ptr 2 0),(6,.d (.aD 190 [.box (.map (mm.map kE) (mm.map vE))]))] .ready none:=⟨_,rfl⟩
   obtain⟨N,aa⟩:∃N,N=AO.loop 3 13 #[7] bc gO [(2,.ptr 2 0),(6,.d (.aD 190 [.box (.map (mm.map kE) (mm.map vE))]))] .busy none:=⟨_,rfl⟩
   have av:∀s2,(∃U,ag.Sub s2 U/\U.l[8]?=some (.frame 8 M F)/\U.l[3]?=some N/\U.l.set 3 LP=[.frame 0 k j,.frame 1 vals ft,.var 136 [.row 9],LP,.frame 4 G B,.dead,Z,.var 170 (bx (.d (enc x))),.frame 8 M F,.row 170 10 ((zs++[x]).map enc)])->Q .normal s2:=by
    rintro s2 ⟨U,az,aA,aB,aC⟩
    refine Y .normal none s2 rfl ⟨U,az,aA,by rw[aB,aa],?_⟩
    have ai:=aj (.frame 8 M F) ⟨_,_,rfl⟩
    simp only[Option.isNone_none,hK]
    rw[<-ad,aC]
    rw[<-ad]at ai
    exact ai
   simp only[<-ad,<-aa]
   clear Y aj ab al
   subst aq
   subst ar
   refine aL.Bw O none [2,5] λK ah=>?_
   simp[kW,fR]
   refine ep (s':=⟨[(2,.ptr 2 0),(5,.ptr 9 0)],fR (.frame 0 k j) (.frame 1 vals ft) LP (.frame 4 G B) zs++[Z,.var 170 (bx (.d (enc x))),.frame 8 M F,.var 170 (bx (.d (enc x)))]⟩) (by first|rfl| (simp[fR];done)) (ah _ ?_)
   refine⟨_,Sub.refl _,rfl,rfl,?_⟩
   show aL _ _ _ _ _ ⟨[(2,.ptr 2 0),(5,.ptr 9 0)],[.frame 0 k j,.frame 1 vals ft,.var 136 [.row 5],N,.frame 4 G B,.row 170 10 (zs.map enc),Z,.var 170 (bx (.d (enc x))),.frame 8 M F,.var 170 (bx (.d (enc x)))]⟩ _
   refine aL.block ?_
   refine aL.Bw O none [] λK ay=>?_
   simp
   refine And.intro (by omega) ?_
   refine ep (s':=⟨[],[.frame 0 k j,.frame 1 vals ft,.var 136 [.row 10],N,.frame 4 G B,.dead,Z,.var 170 (bx (.d (enc x))),.frame 8 M F,.var 170 (bx (.d (enc x))),.row 170 10 ((zs++[x]).map enc)]⟩) (by first|rfl| (simp;done)) (ay _ ?_)
   refine av _ ⟨⟨[],[.frame 0 k j,.frame 1 vals ft,.var 136 [.row 9],N,.frame 4 G B,.dead,Z,.var 170 (bx (.d (enc x))),.frame 8 M F,.row 170 10 ((zs++[x]).map enc)]⟩,?_,rfl,rfl,rfl⟩
   exact Sub.bV [0,1,2,3,4,5,6,7,8,10] (by decide) (by simp[ng,aa,ak]) (by simp[c6,AO.bV,T.bV,T.cZ,idx,aa,ak]) trivial
  rintro u l' ⟨zs,G,B,ae,rfl⟩
  refine ab _ _ ⟨3,13,#[7],bc,gO,_,.ready,none,rfl,by simp,?_⟩
  refine al _ ⟨zs,ae,?_⟩
  show ag.Sub ⟨[(2,.ptr 2 0),(6,.d (.aD 190 [.box (.map (mm.map kE) (mm.map vE))]))],[.frame 0 k j,.frame 1 vals ft,.var 136 [.row 5],.loop 3 13 #[7] bc gO [(2,.ptr 2 0),(6,.d (.aD 190 [.box (.map (mm.map kE) (mm.map vE))]))] .exhausted none,.frame 4 G B,.row 170 10 (zs.map enc)]⟩ _
  exact Sub.bV [0,1,2,5] (by decide) (by simp[ng]) (by simp[c6,AO.bV,T.bV,T.cZ,idx]) (by simp[kx,T.bV,T.cZ,idx])
 rintro s' ⟨zs,ae,ax⟩
 refine aL.sub ax ?_
 refine aL.rS O none [4] λK ah=>?_
 simp
 refine ep (s':=⟨[(4,.row 3)],[.frame 0 k j,.frame 1 vals ft,.var 136 [.row 3],.row 170 10 (zs.map enc)]⟩) (by first|rfl|simp) (ah _ ?_)
 refine aL.ret ?_
 refine Y _ _ (.inl rfl) ⟨⟨[(4,.row 2)],[.frame 0 k j,.frame 1 vals ft,.row 170 10 (zs.map enc)]⟩,Sub.bV [0,1,3] (by decide) (by simp[ng]) (by simp[c6,AO.bV]) (by simp[kx,T.bV,T.cZ,idx]),by simp[fq],rfl,by simp[fq,xS],zs,_,_,ae,rfl⟩
def YX(O:mm.length*80<=140737488355328) :
  iP Tryz.prog 188 [.d (.aD 190 [.box (.map (mm.map kE) (mm.map vE))])] [] λu l'=>u=.row 1/\∃(zs:List aw)(Y:Nat->Value)(F:Tm),zs.Perm (mm.map (·.2))/\l'=[.frame 0 Y F,.row 170 10 (zs.map enc)]:=by
 have j:cA Tryz.prog (env []):=ow trivial
 refine iP.of j (Enters.of Tryz.func188 (by decide)) Tryz.func188 rfl (by rw[Tryz.ntmps188];simp) λR ad w0 I0 vals ft Q B=>?_
 rw[Tryz.ntmps188]
 simp only[List.length_nil,List.nil_append]at B⊢
 simp only[jf]
 refine aL.rS j none [0] λK k=>?_
 simp
 refine ep (s':=⟨[(0,.d (.aD 190 [.box (.map (mm.map kE) (mm.map vE))]))],[.frame 0 vals ft]⟩) (by first|rfl|simp) (k _ ?_)
 refine aL.rC j [2] λK k=>?_
 refine dy.seq j none 1 [3] (by decide) (by decide) λaa M=>?_
 simp
 refine ep (s':=⟨[(3,.d (.aD 190 [.box (.map (mm.map kE) (mm.map vE))]))],[.frame 0 vals ft]⟩) (by first|rfl|simp) (M _ ?_)
 refine dy.call j 262 [.bC 10,.d (.aD 190 [.box (.map (mm.map kE) (mm.map vE))])] rfl rfl trivial (by decide) (by simp[ez]) λab N=>?_
 refine(YW O).mono ?_
 rintro _ _ ⟨rfl,zs,Z,G,U,rfl⟩
 refine N _ _ (dy.fin j none ?_)
 simp
 refine ep (s':=⟨[(2,.row 2)],[.frame 0 vals ft,.frame 1 Z G,.row 170 10 (zs.map enc)]⟩) (by first|rfl|simp) (k _ ?_)
 refine aL.ret ?_
 refine B _ _ (.inl rfl) ⟨⟨[(2,.row 1)],[.frame 0 vals ft,.row 170 10 (zs.map enc)]⟩,Sub.bV [0,2] (by decide) (by simp[ng]) (by simp[c6,AO.bV]) (by simp[kx,T.bV,T.cZ,idx]),by simp[fq],rfl,by simp[fq,xS],zs,_,_,U,rfl⟩
end
abbrev lu:aw->aw->Int:=iw vh nT
def aa7(x:aw)(y:D)(j:y∈aG.cells 16 x):∃n,y=.int .i64 n:=by
 rw[Hk]at j
 simp only[fb,u0,or_false]at j
 rcases j with rfl|rfl|rfl|rfl|rfl|rfl|rfl|rfl|rfl|rfl<;>exact⟨_,rfl⟩
def Dm:Flat aw 10:=⟨λx=>rfl,λx=>rfl,λx y j=>by
 obtain⟨n,rfl⟩:=aa7 x y j
 rfl⟩
def Ul{l:List AO}{id:Nat}{xs:List aw}(Z:l[id]?=some (.row 170 10 (xs.map enc)))(j:xs.length<4611686018427387904)(aa:∀x∈xs,mO x)(N:gM lu xs) :
  sL Tryz.prog 189 [.row id,.d (.fn 100)] l (.d (.aN [])) (l.set id (.row 170 10 ((gw lu xs).map enc))):=by
 haveI:Inhabited {x:aw // mO x}:=⟨⟨⟨0,0,0,⟨0,1⟩,⟨0,1⟩,⟨0,0,4⟩⟩,by decide,by decide,by decide⟩⟩
 refine @Uk aw _ (@ou ⟨True⟩) (@ou nF) trivial rfl _ _ _ _ _ mO _ lu Dm (pe (λ_=>rfl)) (λx y j B=>@ij.ly _ (@ou ⟨True⟩) _ _ (@Bk.k ⟨True⟩ (@PB ⟨True⟩)) (x,y) _ (aa3 j B)) (λb c d w vs U M O Y=>?_) (λp c G w=>AnyF.slices_SortFunc_none {Tryz.NP with} p c G w) _ _ _ Z j aa N
 exact AnyQ.slices_SortFunc_eq Tryz.NP 10 Tryz.isAgg170 Tryz.sizeOf170 _ (λx=>by simp[gK,Dm.len]) (λx v F=>by
  simp only[gK,gj]at F
  obtain⟨y,B,rfl⟩:=F
  have:=Dm.sc _ y B
  cases y<;>simp[o6]at this<;>rfl) _ (BN (pe (λ_=>rfl))) 100 vs b 0 c d w (Enters.of Tryz.func100 (by decide)) U M O Y
def yQ:Cc:=λg ts l=>if g=189 then(match ts with
 | [.row id,.d (.fn 100)]=>(match l[id]? with
  |some (.row 170 10 els)=>some ⟨.d (.aN []),l.set id (.row 170 10 ((gw lu (els.map dec)).map enc)),(els.map (dec:D->aw)).map enc=els/\(∀x∈els.map (dec:D->aw),mO x)/\gM lu (els.map (dec:D->aw))/\els.length<=1000000000⟩
  |_=>none)
 |_=>none)else none
def Ug:Hq Tryz.prog yQ:=by
 intro g ts l r j N
 unfold yQ at j
 split at j
 ·rename_i G
  subst G
  split at j
  ·rename_i id
   split at j
   ·rename_i els M
    cases j
    obtain⟨k,B,F,O⟩:=N
    refine⟨Enters.of Tryz.func189 (by decide),?_⟩
    exact Ul (xs:=els.map dec) (by rw[k];exact M) (by simp;omega) B F
   cases j
  cases j
 cases j
def yK(l:List (FuncId×ag.Spec)):Env:={env l with F:=yQ}
def TM{l:List (FuncId×ag.Spec)}(h:sQ Tryz.prog l):cA Tryz.prog (yK l):=⟨(ow h).E,(ow h).C,(ow h).eq,Ug,(ow h).prog⟩
theorem SU{mm:List (Int×aw)}(Z:mm.length*80<=140737488355328)(aa:∀x∈mm.map (·.2),mO x)(G:gM lu (mm.map (·.2)))(U:mm.length<=1000000000) :
  fE Tryz.prog 98 [.aD 190 [.box (.map (mm.map kE) (mm.map vE))],.fn 100] (enc (gw lu (mm.map (·.2)))):=by
 have j:cA Tryz.prog (yK []):=TM trivial
 refine fE.LS j Tryz.func98 rfl (by rw[Tryz.ntmps98];simp) λR al w0 I0 Q F=>?_
 rw[Tryz.ntmps98]
 refine aL.rS j none [0,1] λK B=>?_
 simp
 refine ep (s':=⟨[(0,.d (.aD 190 [.box (.map (mm.map kE) (mm.map vE))])),(1,.d (.fn 100))],[]⟩) (by first|rfl|simp) (B _ ?_)
 refine aL.rC j [1,5] λK B=>?_
 refine dy.seq j none 1 [1,6] (by decide) (by decide) λaj N=>?_
 simp
 refine ep (s':=⟨[(1,.d (.fn 100)),(6,.d (.aD 190 [.box (.map (mm.map kE) (mm.map vE))]))],[]⟩) (by first|rfl|simp) (N _ ?_)
 refine dy.call j 188 [.d (.aD 190 [.box (.map (mm.map kE) (mm.map vE))])] rfl rfl trivial (by decide) (by simp[ez,yK]) λak O=>?_
 refine(YX Z).mono ?_
 rintro _ _ ⟨rfl,zs,ai,M,k,rfl⟩
 have ad:gM lu zs:=G.perm k.symm
 have ab:∀x∈zs,mO x:=λx af=>aa x (k.subset af)
 have Y:zs.length<=1000000000:=by rw[k.length_eq];simpa using U
 have ae:gw lu (mm.map (·.2))=gw lu zs:=xI (mK (pe (λ_=>rfl)) _) (mK (pe (λ_=>rfl)) _) ((iM _ _).trans (k.symm.trans (iM _ _).symm)) (G.perm (iM _ _).symm)
 rw[ae]at F
 refine O _ _ (dy.fin j none ?_)
 simp
 refine ep (s':=⟨[(1,.d (.fn 100)),(5,.row 1)],[.frame 0 ai M,.row 170 10 (zs.map enc)]⟩) (by first|rfl|simp) (B _ ?_)
 refine aL.sub (s':=⟨[(1,.d (.fn 100)),(5,.row 0)],[.row 170 10 (zs.map enc)]⟩) (Sub.bV [1] (by decide) (by simp[ng]) (by simp[c6,AO.bV]) (by simp[kx,T.bV,T.cZ,idx])) ?_
 refine aL.rS j none [5] λK ag=>?_
 simp[yK,yQ]
 refine And.intro ⟨ab,ad,Y⟩ ?_
 refine ep (s':=⟨[(5,.row 0)],[.row 170 10 ((gw lu zs).map enc)]⟩) (by first|rfl|simp) (ag _ ?_)
 refine aL.rS j none [4] λK ah=>?_
 simp
 refine ep (s':=⟨[(4,.row 0)],[.row 170 10 ((gw lu zs).map enc)]⟩) (by first|rfl|simp) (ah _ ?_)
 refine aL.ret ?_
 refine F _ _ (.inl rfl) ?_
 simp[xA,fq]
def yu:Sy.Callee:=⟨98,[.aD 190 (.box (.map (.int .i64) (.st 16))),.fn 100],[.list (.st 16)],r9⟩
def VC:ij Tryz.prog yu:=
 ⟨Enters.of Tryz.func98 (by decide),λa r h=>(by
  change List (Int×aw)×Unit at a
  change List aw at r
  obtain⟨mm,u⟩:=a
  have h:r9 (mm,u)=some r:=h
  unfold r9 at h
  split at h
  ·rename_i F
   injection h with h;subst h
   obtain⟨j,B,k⟩:=F
   have j:∀p∈mm,mO p.2:=j
   have k:mm.length<=1000000000:=k
   exact SU (mm:=mm) (by omega) (λx M=>by
    obtain⟨p,G,rfl⟩:=gj.1 M
    exact j p G) B k
  ·cases h),
  λt h=>cP (dT.1 (rfl:yu.args.all dV=true) t h),λt h=>cP (dT.1 (rfl:yu.res.all dV=true) t h)⟩
def RJ:Bk:=⟨yu,VC⟩
end Go.Proofs.YthhlipkkjippfaaGreatDoor
namespace Go.Proofs.YthhlipkkjippfaaGreatDoor
open Go Go.ag Go.Sy Go.RowKit Go.Sort
attribute [local instance] ch nF
set_option maxRecDepth 10000
def jn:∀(x:List (Int×Int)),∃n:Int,∀p∈x,p.1<n
 | []=>⟨0,by simp⟩
 |p::x=>by
  obtain⟨n,j⟩:=jn x
  refine⟨max n (p.1+1),λq hq=>?_⟩
  rcases fb.1 hq with rfl|hq
  ·omega
  have:=j q hq;omega
def Wt(at_:List (Int×Int)):∃a,oO at_ a:=by
 obtain⟨n,j⟩:=jn at_
 refine⟨⟨1,1,n,0,0,⟨0,1⟩,⟨1,1⟩,⟨0,0,4⟩⟩,?_,by dsimp only;omega,show bQ ⟨0,1⟩ by decide,by dsimp only;omega,show cd ⟨0,0,4⟩ by decide,by dsimp only;omega⟩
 have:aq at_ n 0=0:=by
  unfold aq
  rw[p5.2 (λp k=>by
   have:=j p k
   simp;omega)];rfl
 simp only[this]
 decide
theorem EU(x:ak):aG.cells 5 x=[.int .i64 x.id,.int .i64 x.part,.int .i64 x.av,.int .i64 x.bp,.int .i64 x.bO,.int .i64 x.start.n,.int .i64 x.start.d,.int .i64 x.length.n,.int .i64 x.length.d,.int .i64 x.aU.step,.int .i64 x.aU.alter,.int .i64 x.aU.bm]:=rfl
def LC(x:ak)(y:D)(j:y∈aG.cells 5 x):∃n,y=.int .i64 n:=by
 rw[EU]at j
 simp only[fb,u0,or_false]at j
 rcases j with rfl|rfl|rfl|rfl|rfl|rfl|rfl|rfl|rfl|rfl|rfl|rfl<;>exact⟨_,rfl⟩
def xN:jm:=⟨272,.st 5,[.aD 273 (.box (.map (.int .i64) (.int .i64)))],Bc⟩
def VB:nZ Tryz.prog xN.f xN.t xN.args xN.fn:=
 OC (@ou ⟨True⟩) (D0:=@ou nF) trivial rfl (i:=5) (k:=12) (t:=.box (.map (.int .i64) (.int .i64))) (ok:=oO) (cf:=λat_=>cC (nK at_)) (⟨0,0,0,0,0,⟨0,0⟩,⟨0,0⟩,⟨0,0,0⟩⟩:ak)
  (
   λ(x y:ak) h=>by
   rw[EU,EU]at h
   obtain⟨Z,ae,af,ag,ah,⟨ai,aj⟩,⟨al,an⟩,aa,ab,ad⟩:=x
   obtain⟨ao,av,aw,ax,ay,⟨az,aA⟩,⟨aB,aC⟩,aq,ar,au⟩:=y
   simp only[o3,D.int.injEq,abt,and_true]at h
   obtain⟨rfl,rfl,rfl,rfl,rfl,rfl,rfl,rfl,rfl,rfl,rfl,rfl⟩:=h
   rfl)
  (λx=>rfl)
  (
   λ(x:ak) y j=>by
   obtain⟨n,rfl⟩:=LC x y j
   rfl)
  (λc=>Wt c) (λc=>BO (wC c))
  (λ(at_:List (Int×Int))(x y:ak) Y j=>@ij.ly _ (@ou ⟨True⟩) _ _ (@Bk.k ⟨True⟩ (@Qa ⟨True⟩)) (x,y,at_) _ (Wu Y j))
  (Enters.of Tryz.func272 (by decide))
  (
   λe aE _ aD U b c d w vs N G M O=>by
   exact AnyQ.slices_SortFunc_eq Tryz.NM 12 Tryz.isAgg126 Tryz.sizeOf126 _ (λx=>rfl) (λx v B=>by
    simp only[gj]at B
    obtain⟨y,j,rfl⟩:=B
    obtain⟨n,rfl⟩:=LC x.1 y j
    rfl) _ (BN U) 273 vs b 0 c d w (Enters.of Tryz.func273 (by decide)) N G M O)
  (λp c F w=>AnyF.slices_SortFunc_none {Tryz.NM with} p c F w)
theorem GW(x:az):aG.cells 15 x=[.int .i64 x.part,.int .i64 x.start.n,.int .i64 x.start.d,.int .i64 x.length.n,.int .i64 x.length.d,.int .i64 x.aU.step,.int .i64 x.aU.alter,.int .i64 x.aU.bm]:=rfl
def Ot(x:az)(y:D)(j:y∈aG.cells 15 x):∃n,y=.int .i64 n:=by
 rw[GW]at j
 simp only[fb,u0,or_false]at j
 rcases j with rfl|rfl|rfl|rfl|rfl|rfl|rfl|rfl<;>exact⟨_,rfl⟩
def uZ:jm:=⟨75,.st 15,[.aD 76 (.box (.fn 73))],r8⟩
def KC:nZ Tryz.prog uZ.f uZ.t uZ.args uZ.fn:=
 OC (@ou ⟨True⟩) (D0:=@ou nF) trivial rfl (i:=15) (k:=8) (t:=.box (.fn 73)) (ok:=λ_=>lf) (cf:=λ_=>iw tS tK) (⟨0,⟨0,0⟩,⟨0,0⟩,⟨0,0,0⟩⟩:az)
  (
   λ(x y:az) h=>by
   rw[GW,GW]at h
   obtain⟨Z,⟨ae,af⟩,⟨ag,ah⟩,aa,ab,ad⟩:=x
   obtain⟨ai,⟨an,ao⟩,⟨aq,ar⟩,aj,ak,al⟩:=y
   simp only[o3,D.int.injEq,abt,and_true]at h
   obtain⟨rfl,rfl,rfl,rfl,rfl,rfl,rfl,rfl⟩:=h
   rfl)
  (λx=>rfl)
  (
   λ(x:az) y j=>by
   obtain⟨n,rfl⟩:=Ot x y j
   rfl)
  (λc=>⟨⟨0,⟨0,1⟩,⟨1,1⟩,⟨0,0,4⟩⟩,by decide,by decide,by decide,by decide⟩) (λc=>pe (λ_=>rfl))
  (λ(_:Unit)(x y:az) Y j=>@ij.ly _ (@ou ⟨True⟩) _ _ (@Bk.k ⟨True⟩ (@RQ ⟨True⟩)) (x,y,()) _ (ZX Y j))
  (Enters.of Tryz.func75 (by decide))
  (
   λe av _ au U b c d w vs N G M O=>by
   exact AnyQ.slices_SortFunc_eq Tryz.eF 8 Tryz.isAgg62 Tryz.sizeOf62 _ (λx=>rfl) (λx v B=>by
    simp only[gj]at B
    obtain⟨y,j,rfl⟩:=B
    obtain⟨n,rfl⟩:=Ot x.1 y j
    rfl) _ (BN U) 76 vs b 0 c d w (Enters.of Tryz.func76 (by decide)) N G M O)
  (λp c F w=>AnyF.slices_SortFunc_none {Tryz.eF with} p c F w)
end Go.Proofs.YthhlipkkjippfaaGreatDoor
namespace Go.Proofs.YthhlipkkjippfaaGreatDoor
open Go Go.ag Go.Sy
def Ai:((List aT)×(List ak))->Option (List ak):=λ(k,j)=>aa (wT k) λB=>aa (oP (List.isEmpty j) (some ([]:List ak)) (ae (decide ((List.append ([]:List ak) j).length*96<=140737488355328/\(List.append ([]:List ak) j).length<=9223372036854775807)) <|some (List.append ([]:List ak) j))) λ(F:(List ak))=>aa (Bc (F,B)) λG=>some G
def Af:((List aT)×(List ak))->Option ((List ak)×Int):=λ(j,k)=>aa (wS (j,k)) λF=>ab (!F) (some (([]:List ak),1)) (aa (Ai (j,k)) λB=>some (B,0))
def oW:bI->Option Bool:=λ(j)=>aa (aa (uB j.version) λF=>ab (!F) (some true) (aa (wP j.bars) λB=>ab (!B) (some true) (aa (AR j.parts) λk=>ab (!k) (some true) (aa (wS (j.bars,j.aK)) λM=>ab (!M) (some true) (aa (w9 (j.parts,j.aK)) λG=>some (!(aF G 0))))))) λ(F:Bool)=>ab F (some false) (aa (Af (j.bars,j.aK)) λB=>aa (ab (aF B.2 0) (aa (FB (B.1,j.aK)) λk=>some k) (some false)) λ(k:Bool)=>some k)
def AQ:(bI×Int)->Option ((List ak)×Int):=λ(F,M)=>aa (oW F) λO=>ab (!O) (some (([]:List ak),1)) (aa (AT (F.parts,(M,()))) λN=>ab (!N.2) (some (([]:List ak),22)) (aa (aa (au F.parts N.1) λG=>aa (AV (F,G)) λk=>aB (λB:(Int×(List ak))=>ab (ah B.1 (k.1.aK.length:Int)) (aa (aa (au k.1.aK B.1) λj=>ab (!(aF j.part k.2.1)) (some B.2) (ae (ai (j.aU.bm+k.2.2.bm)) <|ae (decide ((List.append B.2 ((⟨j.id,k.2.2.id,j.av,j.bp,j.bO,j.start,j.length,(⟨j.aU.step,j.aU.alter,(j.aU.bm+k.2.2.bm)⟩:aV)⟩:ak)::([]:List ak))).length*96<=140737488355328/\(List.append B.2 ((⟨j.id,k.2.2.id,j.av,j.bp,j.bO,j.start,j.length,(⟨j.aU.step,j.aU.alter,(j.aU.bm+k.2.2.bm)⟩:aV)⟩:ak)::([]:List ak))).length<=9223372036854775807)) <|some (List.append B.2 ((⟨j.id,k.2.2.id,j.av,j.bp,j.bO,j.start,j.length,(⟨j.aU.step,j.aU.alter,(j.aU.bm+k.2.2.bm)⟩:aV)⟩:ak)::([]:List ak))))) λ(j:(List ak))=>ae (ai (B.1+1)) <|some (.inl ((B.1+1),j))) (some (.inr B.2))) (0,([]:List ak))) λ(G:(List ak))=>some (G,0)))
def uC:(bI×Int)->Option (aJ×Int):=λ(F,U)=>aa (AQ (F,U)) λG=>ab (!(aF G.2 0)) (some ((⟨0,([]:List aR)⟩:aJ),G.2)) (aa (uD (F,U)) λM=>aa (aB (λk:(Int×((List ak)×(List aR)))=>ab (ah k.1 (F.bars.length:Int)) (aa (au F.bars k.1) λN=>aa (aB (λj:((List ak)×(List aw))=>aa (ab (ah 0 (j.1.length:Int)) (aa (au j.1 0) λB=>some (aF B.av N.id)) (some false)) λ(B:Bool)=>ab B (aa (au j.1 0) λY=>aa (xl (M.1,(N,Y))) λO=>ae (decide ((List.append j.2 (O::([]:List aw))).length*80<=140737488355328/\(List.append j.2 (O::([]:List aw))).length<=9223372036854775807)) <|ae ((leI 0 1)&&(leI 1 (j.1.length:Int))) <|some (.inl ((List.drop (Int.toNat 1) j.1),(List.append j.2 (O::([]:List aw)))))) (some (.inr (j.1,j.2)))) (k.2.1,([]:List aw))) λ(j:((List ak)×(List aw)))=>aa (xk (M.1,(N,j.2))) λB=>ae (decide ((List.append k.2.2 (B::([]:List aR))).length*56<=140737488355328/\(List.append k.2.2 (B::([]:List aR))).length<=9223372036854775807)) <|ae (ai (k.1+1)) <|some (.inl ((k.1+1),(j.1,(List.append k.2.2 (B::([]:List aR))))))) (some (.inr k.2.2))) (0,(G.1,([]:List aR)))) λ(k:(List aR))=>some ((⟨M.1.part.id,k⟩:aJ),0))
def xg:(bI×aJ)->Option Bool:=λ(F,G)=>aa (aa (oW F) λO=>ab (!O) (some true) (some (!(aF (G.bu.length:Int) (F.bars.length:Int))))) λ(O:Bool)=>ab O (some false) (aa (uD (F,G.part)) λY=>ab (!Y.2) (some false) (aZ (aB (λj:(Int×(Int×(List (Int×Bool))))=>ab (ah j.2.1 (G.bu.length:Int)) (aa (au G.bu j.2.1) λk=>aa (au F.bars j.2.1) λZ=>aa (xk (Y.1,(Z,([]:List aw)))) λM=>aa (ab (!(aF k.av M.av)) (some true) (ab (!(aF k.key M.key)) (some true) (ab (!(CA k.length M.length)) (some true) (aa (Bb (k.aK,())) λU=>some (!U))))) λ(U:Bool)=>ab U (some (.inr (.inr false))) (aZ (aB (λB:(Int×(List (Int×Bool)))=>ab (ah B.1 (k.aK.length:Int)) (aa (au k.aK B.1) λN=>aa (xh (N,k.length)) λad=>ab (!ad) (some (.inr (.inr (.inr (.inr false))))) (ae (ai (B.1+1)) <|some (.inl ((B.1+1),(aM B.2 N.id true))))) (some (.inr (.inl B.2)))) (0,j.2.2)) λ(B:(List (Int×Bool)))=>ae (ai (j.1+(k.aK.length:Int))) <|ae (ai (j.2.1+1)) <|some (.inl ((j.1+(k.aK.length:Int)),((j.2.1+1),B))))) (some (.inr (.inl (j.1,j.2.2))))) (0,(0,([]:List (Int×Bool))))) λ(j:(Int×(List (Int×Bool))))=>aa (ab (leI j.1 20000) (some (aF (j.2.length:Int) j.1)) (some false)) λ(k:Bool)=>some k))
def sd:(bI×aJ)->Option ((List ak)×Int):=λ(O,G)=>aa (xg (O,G)) λY=>ab (!Y) (some (([]:List ak),1)) (aa (uD (O,G.part)) λM=>aZ (aB (λk:(Int×(List ak))=>ab (ah k.1 (G.bu.length:Int)) (aZ (aa (au G.bu k.1) λF=>aB (λB:(Int×(List ak))=>ab (ah B.1 (F.aK.length:Int)) (aa (au F.aK B.1) λj=>aa (au O.bars k.1) λU=>aa (Aa (M.1.part,(U.key,j.aU))) λN=>ab (!(aF N.2 0)) (some (.inr (.inr (.inr (.inr (([]:List ak),3)))))) (ae (decide ((List.append B.2 ((⟨j.id,M.1.part.id,F.av,j.bp,j.bO,j.start,j.length,N.1⟩:ak)::([]:List ak))).length*96<=140737488355328/\(List.append B.2 ((⟨j.id,M.1.part.id,F.av,j.bp,j.bO,j.start,j.length,N.1⟩:ak)::([]:List ak))).length<=9223372036854775807)) <|ae (ai (B.1+1)) <|some (.inl ((B.1+1),(List.append B.2 ((⟨j.id,M.1.part.id,F.av,j.bp,j.bO,j.start,j.length,N.1⟩:ak)::([]:List ak))))))) (some (.inr (.inl B.2)))) (0,k.2)) λ(F:(List ak))=>ae (ai (k.1+1)) <|some (.inl ((k.1+1),F))) (some (.inr (.inl k.2)))) (0,([]:List ak))) λ(k:(List ak))=>some (k,0))
def jB:(eo×ej)->Option ((List az)×Int):=λ(N,O)=>aa (uz O.form) λad=>aa (mB ((⟨0,([]:List aR)⟩:aJ),O.bF)) λan=>aa (ab (!(aF ad.2 0)) (some true) (ab (!(aF an.2 0)) (some true) (aa (oW N.aI) λaj=>ab (!aj) (some true) (ab (!(aF O.version N.aI.version)) (some true) (some (!(aF O.form.bars (N.aI.bars.length:Int)))))))) λ(aj:Bool)=>ab aj (some (([]:List az),1)) (aZ (aB (λG:(Int×(List az))=>ab (ah G.1 (N.aI.parts.length:Int)) (aa (au N.aI.parts G.1) λaf=>aa (uC (N.aI,af.id)) λag=>aa (ab (aF ag.2 0) (aa (aa (mB (ag.1,O.bF)) λM=>ab (!(aF M.2 0)) (some (G.2,M.2)) (aa (sd (N.aI,M.1)) λY=>ab (!(aF Y.2 0)) (some (G.2,Y.2)) (aa (aB (λB:(Int×(List (Int×(List ak))))=>ab (ah B.1 (Y.1.length:Int)) (aa (au Y.1 B.1) λj=>ae (decide ((List.append (aq B.2 j.av ([]:List ak)) (j::([]:List ak))).length*96<=140737488355328/\(List.append (aq B.2 j.av ([]:List ak)) (j::([]:List ak))).length<=9223372036854775807)) <|ae (ai (B.1+1)) <|some (.inl ((B.1+1),(aM B.2 j.av (List.append (aq B.2 j.av ([]:List ak)) (j::([]:List ak))))))) (some (.inr B.2))) (0,([]:List (Int×(List ak))))) λ(B:(List (Int×(List ak))))=>aZ (aB (λj:(Int×((List az)×(Int×Int)))=>ab (ah j.1 (ad.1.length:Int)) (aa (au ad.1 j.1) λal=>aa (au N.aI.bars al.av) λZ=>aZ (aB (λF:(Int×(List az))=>ab (ah F.1 ((aq B Z.id ([]:List ak)).length:Int)) (aa (au (aq B Z.id ([]:List ak)) F.1) λk=>aa (fB ((⟨j.2.2.1,j.2.2.2⟩:Rat),k.start)) λU=>ab (!(aF U.2 0)) (some (.inr (.inr (.inr (.inr (F.2,U.2)))))) (ae (decide ((List.append F.2 ((⟨k.part,U.1,k.length,k.aU⟩:az)::([]:List az))).length*64<=140737488355328/\(List.append F.2 ((⟨k.part,U.1,k.length,k.aU⟩:az)::([]:List az))).length<=9223372036854775807)) <|ae (ai (F.1+1)) <|some (.inl ((F.1+1),(List.append F.2 ((⟨k.part,U.1,k.length,k.aU⟩:az)::([]:List az))))))) (some (.inr (.inl F.2)))) (0,j.2.1)) λ(F:(List az))=>aa (fB ((⟨j.2.2.1,j.2.2.2⟩:Rat),Z.length)) λk=>ae (ai (j.1+1)) <|some (.inl ((j.1+1),(F,(k.1.n,k.1.d))))) (some (.inr (.inl j.2.1)))) (0,(G.2,(0,1)))) λ(j:(List az))=>some (j,0)))) λ(M:((List az)×Int))=>some (M.2,M.1)) (some (ag.2,G.2))) λ(M:(Int×(List az)))=>ab (!(aF M.1 0)) (some (.inr (.inr (([]:List az),M.1)))) (ae (ai (G.1+1)) <|some (.inl ((G.1+1),M.2)))) (some (.inr (.inl G.2)))) (0,([]:List az))) λ(G:(List az))=>aa (r8 (G,())) λaf=>some (af,0))
def zX:aJ->Option ((List Int)×Int):=λ(F)=>aa (rU F) λM=>ab (!M) (some (([]:List Int),1)) (aa (aB (λj:(Int×(List (Int×Bool)))=>ab (ah j.1 (F.bu.length:Int)) (aa (aa (au F.bu j.1) λB=>aB (λk:(Int×(List (Int×Bool)))=>ab (ah k.1 (B.aK.length:Int)) (aa (au B.aK k.1) λG=>ae (ai (k.1+1)) <|some (.inl ((k.1+1),(aM k.2 G.bp true)))) (some (.inr k.2))) (0,j.2)) λ(B:(List (Int×Bool)))=>ae (ai (j.1+1)) <|some (.inl ((j.1+1),B))) (some (.inr j.2))) (0,([]:List (Int×Bool)))) λ(j:(List (Int×Bool)))=>aa (L4 (fA j 0)) λB=>aa (xb B) λk=>some (k,0))
def zV:(aJ×Int)->Option ((List Int)×Int):=λ(G,k)=>aa (zX G) λB=>aa (ab (!(aF B.2 0)) (some true) (ab (ah k 1) (some true) (some (ah 40 k)))) λ(M:Bool)=>ab M (some (([]:List Int),1)) (ab (ah k (B.1.length:Int)) (some (([]:List Int),6)) (ae (leI 0 k) <|ae (decide ((List.replicate (Int.toNat k) (0:Int)).length*8<=140737488355328/\(List.replicate (Int.toNat k) (0:Int)).length<=9223372036854775807)) <|aa (aB (λj:(Int×(List Int))=>ab (ah j.1 ((List.replicate (Int.toNat k) (0:Int)).length:Int)) (aa (ab (ah 0 (B.1.length:Int)) (ae (ai (j.1*(B.1.length:Int))) <|ae (!(aF k 0)) <|ae (ai (Int.tdiv (j.1*(B.1.length:Int)) k)) <|aa (au B.1 (Int.tdiv (j.1*(B.1.length:Int)) k)) λF=>ae ((leI 0 j.1)&&(ah j.1 (j.2.length:Int))) <|aa (au j.2 j.1) λN=>some (List.set j.2 (Int.toNat j.1) F)) (some j.2)) λ(F:(List Int))=>ae (ai (j.1+1)) <|some (.inl ((j.1+1),F))) (some (.inr j.2))) (0,(List.replicate (Int.toNat k) (0:Int)))) λ(j:(List Int))=>some (j,0)))
def xc:eo->Option ((List aJ)×Int):=λ(F)=>aa (oW F.aI) λU=>ab (!U) (some (([]:List aJ),1)) (aZ (aB (λj:(Int×(List aJ))=>ab (ah j.1 (F.aI.parts.length:Int)) (aZ (aa (au F.aI.parts j.1) λG=>aa (uC (F.aI,G.id)) λN=>aa (zV (N.1,G.eA)) λM=>ab (!(aF M.2 0)) (some (.inr (.inr (.inr (([]:List aJ),M.2))))) (aB (λk:(Int×(List aJ))=>ab (ah k.1 (M.1.length:Int)) (aa (au M.1 k.1) λO=>aa (wI (N.1,O)) λB=>ab (!(aF B.2 0)) (some (.inr (.inr (.inr (.inr (([]:List aJ),B.2)))))) (ae (decide ((List.append k.2 (B.1::([]:List aJ))).length*32<=140737488355328/\(List.append k.2 (B.1::([]:List aJ))).length<=9223372036854775807)) <|ae (ai (k.1+1)) <|some (.inl ((k.1+1),(List.append k.2 (B.1::([]:List aJ))))))) (some (.inr (.inl k.2)))) (0,j.2))) λ(G:(List aJ))=>ae (ai (j.1+1)) <|some (.inl ((j.1+1),G))) (some (.inr (.inl j.2)))) (0,([]:List aJ))) λ(j:(List aJ))=>some (j,0))
def FL:(aJ×eo)->Option Bool:=λ(j,k)=>aa (xg (k.aI,j)) λB=>some (!B)
def FK:((List aJ)×eo)->Option Int:=λ(k,B)=>aZ (aB (λj:Int=>ab (ah j (k.length:Int)) (aa (au k j) λF=>aa (FL (F,B)) λG=>ab G (some (.inr (.inr j))) (ae (ai (j+1)) <|some (.inl (j+1)))) (some (.inr (.inl ())))) 0) λ(j:Unit)=>some (-1)
def xa:((List aJ)×eo)->Option Bool:=λ(j,k)=>aa (FK (j,k)) λB=>some (leI 0 B)
def wJ:(List aJ)->Option (aJ×Int):=λ(k)=>aa (ab (ah (k.length:Int) 1) (some true) (ab (ah 100 (k.length:Int)) (some true) (aa (A5 (k,())) λY=>some Y))) λ(Y:Bool)=>ab Y (some ((⟨0,([]:List aR)⟩:aJ),1)) (aa (Fz (k,k)) λad=>ab ad (some ((⟨0,([]:List aR)⟩:aJ),6)) (aa (au k 0) λaf=>aZ (aa (au k 0) λO=>aB (λj:(Int×(Int×(List aR)))=>ab (ah j.2.1 (O.bu.length:Int)) (aa (au O.bu j.2.1) λB=>aZ (aB (λG:(Int×(List (Int×aw)))=>ab (ah G.1 (k.length:Int)) (aZ (aa (au k G.1) λU=>aa (au U.bu j.2.1) λM=>aB (λF:(Int×(List (Int×aw)))=>ab (ah F.1 (M.aK.length:Int)) (aa (au M.aK F.1) λN=>aa (ab (dG F.2 N.id) (some (!(sX (aq F.2 N.id (⟨0,0,0,(⟨0,0⟩:Rat),(⟨0,0⟩:Rat),(⟨0,0,0⟩:aV)⟩:aw)) N))) (some false)) λ(Z:Bool)=>ab Z (some (.inr (.inr (.inr (.inr (.inr (.inr ((⟨0,([]:List aR)⟩:aJ),5)))))))) (ae (ai (F.1+1)) <|some (.inl ((F.1+1),(aM F.2 N.id N))))) (some (.inr (.inl F.2)))) (0,G.2)) λ(U:(List (Int×aw)))=>ae (ai (G.1+1)) <|some (.inl ((G.1+1),U))) (some (.inr (.inl G.2)))) (0,([]:List (Int×aw)))) λ(G:(List (Int×aw)))=>aa (Ff G) λU=>aa (r9 (U,())) λM=>ae (ai (j.1+(M.length:Int))) <|ae (decide ((List.append j.2.2 ((⟨B.av,B.key,B.length,M⟩:aR)::([]:List aR))).length*56<=140737488355328/\(List.append j.2.2 ((⟨B.av,B.key,B.length,M⟩:aR)::([]:List aR))).length<=9223372036854775807)) <|ae (ai (j.2.1+1)) <|some (.inl ((j.1+(M.length:Int)),((j.2.1+1),(List.append j.2.2 ((⟨B.av,B.key,B.length,M⟩:aR)::([]:List aR))))))) (some (.inr (.inl (j.1,j.2.2))))) (0,(0,([]:List aR)))) λ(O:(Int×(List aR)))=>ab (ah 20000 O.1) (some ((⟨0,([]:List aR)⟩:aJ),2)) (some ((⟨af.part,O.2⟩:aJ),0))))
def xe:(eo×(ej×(List aJ)))->Option ((List az)×Int):=λ(O,Y,af)=>ab (ah 2400 (af.length:Int)) (some (([]:List az),2)) (aa (uz Y.form) λal=>aa (mB ((⟨0,([]:List aR)⟩:aJ),Y.bF)) λar=>aa (ab (!(aF al.2 0)) (some true) (ab (!(aF ar.2 0)) (some true) (aa (oW O.aI) λan=>ab (!an) (some true) (ab (!(aF Y.version O.aI.version)) (some true) (some (!(aF Y.form.bars (O.aI.bars.length:Int)))))))) λ(an:Bool)=>ab an (some (([]:List az),1)) (aa (xa (af,O)) λaw=>ab aw (some (([]:List az),1)) (aa (aB (λG:(Int×(List (Int×(List aJ))))=>ab (ah G.1 (af.length:Int)) (aa (au af G.1) λk=>ae (decide ((List.append (aq G.2 k.part ([]:List aJ)) (k::([]:List aJ))).length*32<=140737488355328/\(List.append (aq G.2 k.part ([]:List aJ)) (k::([]:List aJ))).length<=9223372036854775807)) <|ae (ai (G.1+1)) <|some (.inl ((G.1+1),(aM G.2 k.part (List.append (aq G.2 k.part ([]:List aJ)) (k::([]:List aJ))))))) (some (.inr G.2))) (0,([]:List (Int×(List aJ))))) λ(G:(List (Int×(List aJ))))=>aZ (aB (λk:(Int×(List az))=>ab (ah k.1 (O.aI.parts.length:Int)) (aZ (aa (au O.aI.parts k.1) λU=>ab (aF ((aq G U.id ([]:List aJ)).length:Int) 0) (some (.inl k.2)) (aa (wJ (aq G U.id ([]:List aJ))) λag=>aa (ab (aF ag.2 0) (aa (aa (mB (ag.1,Y.bF)) λN=>ab (!(aF N.2 0)) (some (k.2,N.2)) (aa (sd (O.aI,N.1)) λad=>ab (!(aF ad.2 0)) (some (k.2,ad.2)) (aa (aB (λF:(Int×(List (Int×(List ak))))=>ab (ah F.1 (ad.1.length:Int)) (aa (au ad.1 F.1) λj=>ae (decide ((List.append (aq F.2 j.av ([]:List ak)) (j::([]:List ak))).length*96<=140737488355328/\(List.append (aq F.2 j.av ([]:List ak)) (j::([]:List ak))).length<=9223372036854775807)) <|ae (ai (F.1+1)) <|some (.inl ((F.1+1),(aM F.2 j.av (List.append (aq F.2 j.av ([]:List ak)) (j::([]:List ak))))))) (some (.inr F.2))) (0,([]:List (Int×(List ak))))) λ(F:(List (Int×(List ak))))=>aZ (aB (λj:(Int×((List az)×(Int×Int)))=>ab (ah j.1 (al.1.length:Int)) (aa (au al.1 j.1) λao=>aa (au O.aI.bars ao.av) λaj=>aZ (aB (λM:(Int×(List az))=>ab (ah M.1 ((aq F aj.id ([]:List ak)).length:Int)) (aa (au (aq F aj.id ([]:List ak)) M.1) λB=>aa (fB ((⟨j.2.2.1,j.2.2.2⟩:Rat),B.start)) λZ=>ab (!(aF Z.2 0)) (some (.inr (.inr (.inr (.inr (M.2,Z.2)))))) (ae (decide ((List.append M.2 ((⟨B.part,Z.1,B.length,B.aU⟩:az)::([]:List az))).length*64<=140737488355328/\(List.append M.2 ((⟨B.part,Z.1,B.length,B.aU⟩:az)::([]:List az))).length<=9223372036854775807)) <|ae (ai (M.1+1)) <|some (.inl ((M.1+1),(List.append M.2 ((⟨B.part,Z.1,B.length,B.aU⟩:az)::([]:List az))))))) (some (.inr (.inl M.2)))) (0,j.2.1)) λ(M:(List az))=>aa (fB ((⟨j.2.2.1,j.2.2.2⟩:Rat),aj.length)) λB=>ae (ai (j.1+1)) <|some (.inl ((j.1+1),(M,(B.1.n,B.1.d))))) (some (.inr (.inl j.2.1)))) (0,(k.2,(0,1)))) λ(j:(List az))=>some (j,0)))) λ(N:((List az)×Int))=>some (N.2,N.1)) (some (ag.2,k.2))) λ(N:(Int×(List az)))=>ab (!(aF N.1 0)) (some (.inr (.inr (.inr (([]:List az),N.1))))) (some (.inl N.2)))) λ(U:(List az))=>ae (ai (k.1+1)) <|some (.inl ((k.1+1),U))) (some (.inr (.inl k.2)))) (0,([]:List az))) λ(k:(List az))=>aa (r8 (k,())) λU=>some (U,0))))
end Go.Proofs.YthhlipkkjippfaaGreatDoor
namespace Go.Proofs.YthhlipkkjippfaaGreatDoor
open Go Go.ag Go.Sy
attribute [local instance] nF
set_option maxRecDepth 100000
def P9:=CB [.list (.st 1),.list (.st 5)] [.list (.st 5)] Ai [HV] [xN] ⟨VB,trivial⟩ Tryz.func204
def P5:=bk [.list (.st 1),.list (.st 5)] [.list (.st 5),tI] Af [HU,P9] Tryz.func114
def vr:=bk [.st 6] [.bool] oW [Ii,HT,Q4,HU,Rc,P5,Ru] Tryz.func45
def Q3:=bk [.st 6,tI] [.list (.st 5),tI] AQ [vr,Q7,Ra] Tryz.func68
def Ik:=bk [.st 6,tI] [.st 18,tI] uC [Q3,Cy,RV,Io] Tryz.func33
def Im:=bk [.st 6,.st 18] [.bool] xg [vr,Cy,Io,RI,RS] Tryz.func41
def Il:=bk [.st 6,.st 18] [.list (.st 5),tI] sd [Im,Cy,PQ] Tryz.func71
def Ij:=CB [.st 13,.st 14] [.list (.st 15),tI] jB [Ib,HS,vr,Ik,Il,yl] [uZ] ⟨KC,trivial⟩ Tryz.func11
def PA:=bk [.st 18] [.list tI,tI] zX [yi,P1,RK] Tryz.func116
def Pt:=bk [.st 18,tI] [.list tI,tI] zV [PA] Tryz.func46
def RM:=bk [.st 13] [.list (.st 18),tI] xc [vr,Ik,Pt,Pu] Tryz.func16
def RO:=bk [.st 18,.box (.st 13)] [.bool] FL [Im] Tryz.func40
def RH:=bk [.list (.st 18),.aD 40 (.box (.st 13))] [tI] FK [RO] Tryz.func89
def Rq:=bk [.list (.st 18),.aD 40 (.box (.st 13))] [.bool] xa [RH] Tryz.func39
def Pw:=bk [.list (.st 18)] [.st 18,tI] wJ [Ro,Rp,P2,RJ] Tryz.func42
def RN:=CB [.st 13,.st 14,.list (.st 18)] [.list (.st 15),tI] xe [Ib,HS,vr,Rq,Pw,Il,yl] [uZ] ⟨KC,trivial⟩ Tryz.func14
end Go.Proofs.YthhlipkkjippfaaGreatDoor
namespace Go.Proofs.YthhlipkkjippfaaGreatDoor
open Go Go.ag Go.Sy
def wO:Unit->Option Bool:=λ()=>aa (Fe ()) λj=>aa (jB (j.1,j.2)) λad=>aa (xc j.1) λZ=>aa (xe (j.1,(j.2,Z.1))) λaf=>aa (jB (j.1,(⟨j.2.version,(⟨j.2.form.bars,j.2.form.aY,j.2.form.bE,j.2.form.jump,((⟨0,1,1⟩:bK)::([]:List bK))⟩:Form),j.2.bF⟩:ej))) λag=>aa (jB (j.1,(⟨2,j.2.form,j.2.bF⟩:ej))) λaj=>aa (ab (aF ad.2 0) (ab (aF Z.2 0) (ab (aF af.2 0) (ab (aF ag.2 0) (ab (aF aj.2 1) (some (aF (Z.1.length:Int) 3)) (some false)) (some false)) (some false)) (some false)) (some false)) λ(ak:Bool)=>aa (kQ (0,1)) λN=>aa (kQ (1,1)) λO=>aa (kQ (0,1)) λU=>aa (kQ (1,1)) λk=>aa (kQ (4,1)) λB=>aa (kQ (1,1)) λF=>aa (kQ (4,1)) λG=>aa (kQ (1,1)) λM=>aa (ab ak (aa (oU (ad.1,((⟨1,N,O,(⟨0,0,4⟩:aV)⟩:az)::((⟨2,U,k,(⟨0,0,5⟩:aV)⟩:az)::((⟨1,B,F,(⟨0,0,4⟩:aV)⟩:az)::((⟨2,G,M,(⟨0,0,5⟩:aV)⟩:az)::([]:List az))))))) λY=>ab Y (aa (oU (af.1,((⟨1,N,O,(⟨0,0,4⟩:aV)⟩:az)::((⟨2,U,k,(⟨0,0,5⟩:aV)⟩:az)::((⟨1,B,F,(⟨0,0,4⟩:aV)⟩:az)::((⟨2,G,M,(⟨0,0,5⟩:aV)⟩:az)::([]:List az))))))) λah=>ab ah (ae ((leI 0 2)&&(leI 2 (((⟨1,N,O,(⟨0,0,4⟩:aV)⟩:az)::((⟨2,U,k,(⟨0,0,5⟩:aV)⟩:az)::((⟨1,B,F,(⟨0,0,4⟩:aV)⟩:az)::((⟨2,G,M,(⟨0,0,5⟩:aV)⟩:az)::([]:List az))))).length:Int))) <|aa (oU (ag.1,(List.take (Int.toNat 2) ((⟨1,N,O,(⟨0,0,4⟩:aV)⟩:az)::((⟨2,U,k,(⟨0,0,5⟩:aV)⟩:az)::((⟨1,B,F,(⟨0,0,4⟩:aV)⟩:az)::((⟨2,G,M,(⟨0,0,5⟩:aV)⟩:az)::([]:List az)))))))) λai=>some ai) (some false)) (some false)) (some false)) λ(Y:Bool)=>some Y
end Go.Proofs.YthhlipkkjippfaaGreatDoor
namespace Go.Proofs.YthhlipkkjippfaaGreatDoor
open Go Go.ag Go.Sy
attribute [local instance] nF
set_option maxRecDepth 100000
def PY:=bk [] [.bool] wO [PX,Ij,RM,RN,Cr,H9] Tryz.func8
end Go.Proofs.YthhlipkkjippfaaGreatDoor
namespace Go.Proofs.YthhlipkkjippfaaGreatDoor
open Go Go.ag Go.Sy
def Ac:(eo×(ej×Int))->Option Bool:=λ(M,j,G)=>aa (wO ()) λad=>aa (aa (Ae (M,j)) λag=>ab (!ag) (some true) (some (ah j.form.bars 2))) λ(ag:Bool)=>ab ag (some ad) (ae (ai (j.form.bars-1)) <|ae (!(aF (j.form.bars-1) 0)) <|ae (ai (1+(Int.tmod (IntKind.wrap .i64 G) (j.form.bars-1)))) <|aZ (aB (λO:Int=>ab (ah O (j.form.aY.length:Int)) (aa (au j.form.aY O) λU=>aa (ab (ah U.from_ (1+(Int.tmod (IntKind.wrap .i64 G) (j.form.bars-1)))) (some (ah (1+(Int.tmod (IntKind.wrap .i64 G) (j.form.bars-1))) U.aQ)) (some false)) λ(F:Bool)=>ab F (some (.inr (.inr ad))) (ae (ai (O+1)) <|some (.inl (O+1)))) (some (.inr (.inl ())))) 0) λ(O:Unit)=>aa (jB (M,(⟨j.version,(⟨j.form.bars,j.form.aY,j.form.bE,(⟨0,0,0⟩:im),([]:List bK)⟩:Form),j.bF⟩:ej))) λU=>aa (jB (M,(⟨j.version,(⟨j.form.bars,j.form.aY,j.form.bE,(⟨0,0,0⟩:im),((⟨(1+(Int.tmod (IntKind.wrap .i64 G) (j.form.bars-1))),j.form.bars,0⟩:bK)::([]:List bK))⟩:Form),j.bF⟩:ej))) λF=>aa (jB (M,(⟨j.version,(⟨j.form.bars,j.form.aY,j.form.bE,(⟨0,0,0⟩:im),((⟨0,(1+(Int.tmod (IntKind.wrap .i64 G) (j.form.bars-1))),0⟩:bK)::([]:List bK))⟩:Form),j.bF⟩:ej))) λaj=>aa (ab (!(aF U.2 0)) (some true) (ab (!(aF F.2 0)) (some true) (some (!(aF aj.2 0))))) λ(al:Bool)=>ab al (some false) (aa (kQ (0,1)) λaf=>aa (aa (w4 (⟨j.form.bars,j.form.aY,j.form.bE,(⟨0,0,0⟩:im),((⟨(1+(Int.tmod (IntKind.wrap .i64 G) (j.form.bars-1))),j.form.bars,0⟩:bK)::([]:List bK))⟩:Form)) λN=>aB (λk:(Bool×(Int×(Int×Int)))=>ab (ah k.2.1 (N.length:Int)) (aa (aa (au N k.2.1) λB=>ab (ah B.av (1+(Int.tmod (IntKind.wrap .i64 G) (j.form.bars-1)))) (aa (au M.aI.bars B.av) λY=>aa (fB ((⟨k.2.2.1,k.2.2.2⟩:Rat),Y.length)) λZ=>aa (ab k.1 (some (aF Z.2 0)) (some false)) λ(ak:Bool)=>some (ak,(Z.1.n,Z.1.d))) (some (k.1,(k.2.2.1,k.2.2.2)))) λ(B:(Bool×(Int×Int)))=>ae (ai (k.2.1+1)) <|some (.inl (B.1,((k.2.1+1),(B.2.1,B.2.2))))) (some (.inr (k.1,(k.2.2.1,k.2.2.2))))) (ad,(0,(af.n,af.d)))) λ(N:(Bool×(Int×Int)))=>aa (Ad (aj.1,(⟨N.2.1,N.2.2⟩:Rat))) λk=>aa (ab N.1 (ab k.2 (aa (wZ M.aI) λB=>ab B (ae (decide ((List.append ([]:List az) F.1).length*64<=140737488355328/\(List.append ([]:List az) F.1).length<=9223372036854775807)) <|ae (decide ((List.append (List.append ([]:List az) F.1) k.1).length*64<=140737488355328/\(List.append (List.append ([]:List az) F.1) k.1).length<=9223372036854775807)) <|aa (oU (U.1,(List.append (List.append ([]:List az) F.1) k.1))) λY=>some Y) (some false)) (some false)) (some false)) λ(B:Bool)=>some B))
end Go.Proofs.YthhlipkkjippfaaGreatDoor
namespace Go.Proofs.YthhlipkkjippfaaGreatDoor
open Go Go.ag Go.Sy
attribute [local instance] nF
set_option maxRecDepth 100000
def PW:=bk [.st 13,.st 14,.int .u8] [.bool] Ac [PY,P0,Ij,Cr,QA,yl,PZ,H7,H9] Tryz.func6
end Go.Proofs.YthhlipkkjippfaaGreatDoor
end
