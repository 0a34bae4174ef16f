import Derived.Test.YthhlipkkjippfaaGreatDoorX6
import Derived.Shelf.SlGeneric
import Derived.Shelf.SlIterI.Nil
import Derived.Shelf.SortM.Plain
import Derived.Shelf.SortM.SortNone
import Derived.Ground.SlsfProg
import Derived.Ground.GgzProg
import Derived.Ground.SlgmProg
import Derived.Shelf.SlSortCmp.WholeK
import Derived.Shelf.SlSortCmp.NoneTotal
set_option linter.all false
noncomputable section
namespace Go.Proofs.YthhlipkkjippfaaGreatDoor
open Go Go.ag Go.Sy
def kh:(Int×Int)->Option Rat:=λ(j,k)=>some (⟨j,k⟩:Rat)
def ES:Unit->Option (dB×Room):=λ()=>aa (kh (0,1)) λj=>aa (kh (1,1)) λk=>aa (kh (4,1)) λB=>some ((⟨(⟨3,((⟨1,B,0⟩:aM)::([]:List aM)),((⟨1,0,0,0,2,(⟨0,0⟩:Interval),(⟨0,0,0⟩:aP),(⟨0,0,8⟩:aP)⟩:Part)::((⟨2,0,1,1,1,(⟨0,0⟩:Interval),(⟨0,0,0⟩:aP),(⟨0,0,8⟩:aP)⟩:Part)::([]:List Part))),((⟨5,1,1,0,0,j,k,(⟨0,0,4⟩:aP)⟩:aq)::([]:List aq))⟩:Score),(⟨0,([]:List Repeat),([]:List Ending),(⟨0,0,0⟩:Jump),([]:List Cut)⟩:Form),([]:List so)⟩:dB),(⟨3,(⟨1,((⟨0,1,2⟩:Repeat)::([]:List Repeat)),([]:List Ending),(⟨0,0,0⟩:Jump),([]:List Cut)⟩:Form),([]:List Int)⟩:Room))
def Aj:Order->Option Bool:=λ(B)=>aQ (ay (λk:(Int×Int)=>ab (ah k.2 (B.form.aX.length:Int)) (aa (au B.form.aX k.2) λj=>aa (ab (ah j.from_ k.1) (some true) (ab (leI j.aO j.from_) (some true) (ab (ah B.form.bars j.aO) (some true) (ab (ah j.times 1) (some true) (some (ah 9 j.times)))))) λ(F:Bool)=>ab F (some (.inr (.inr false))) (ae (ai (k.2+1)) <|some (.inl (j.aO,(k.2+1))))) (some (.inr (.inl ())))) (0,0)) λ(k:Unit)=>some (leI (B.form.aX.length:Int) 100)
def E5:(Repeat×Ending)->Option Bool:=λ(j,k)=>aa (ab (leI j.from_ k.from_) (some (leI k.aO j.aO)) (some false)) λ(B:Bool)=>some B
def Fl:((List Repeat)×Ending)->Option Int:=λ(k,B)=>aQ (ay (λj:Int=>ab (ah j (k.length:Int)) (aa (au k j) λF=>aa (E5 (F,B)) λG=>ab G (some (.inr (.inr j))) (ae (ai (j+1)) <|some (.inl (j+1)))) (some (.inr (.inl ())))) 0) λ(j:Unit)=>some (-1)
def Az:((List Repeat)×Ending)->Option Bool:=λ(j,k)=>aa (Fl (j,k)) λB=>some (leI 0 B)
def Ai:Order->Option Bool:=λ(B)=>aQ (ay (λk:(Int×Int)=>ab (ah k.2 (B.form.bz.length:Int)) (aa (au B.form.bz k.2) λj=>aa (Az (B.form.aX,j)) λG=>aa (ab (ah j.from_ k.1) (some true) (ab (leI j.aO j.from_) (some true) (ab (!G) (some true) (ab (ah j.pass 1) (some true) (some (ah 9 j.pass)))))) λ(F:Bool)=>ab F (some (.inr (.inr false))) (ae (ai (k.2+1)) <|some (.inl (j.aO,(k.2+1))))) (some (.inr (.inl ())))) (0,0)) λ(k:Unit)=>some (leI (B.form.bz.length:Int) 100)
def E7:(Repeat×Int)->Option Bool:=λ(j,k)=>aa (ab (ah j.from_ k) (some (ah k j.aO)) (some false)) λ(B:Bool)=>some B
def Fm:((List Repeat)×Int)->Option Int:=λ(k,B)=>aQ (ay (λj:Int=>ab (ah j (k.length:Int)) (aa (au k j) λF=>aa (E7 (F,B)) λG=>ab G (some (.inr (.inr j))) (ae (ai (j+1)) <|some (.inl (j+1)))) (some (.inr (.inl ())))) 0) λ(j:Unit)=>some (-1)
def Fc:((List Repeat)×Int)->Option Bool:=λ(j,k)=>aa (Fm (j,k)) λB=>some (leI 0 B)
def tW:(Order×Int)->Option Bool:=λ(j,k)=>aa (Fc (j.form.aX,k)) λB=>some B
def Al:Order->Option Bool:=λ(j)=>ab (Cb j.form.jump (⟨0,0,0⟩:Jump)) (some true) (aa (ab (ah j.form.jump.at_ 1) (some true) (ab (ah j.form.bars j.form.jump.at_) (some true) (ab (ah j.form.jump.to 0) (some true) (ab (leI j.form.jump.at_ j.form.jump.to) (some true) (ab (leI j.form.jump.cW j.form.jump.to) (some true) (some (ah j.form.bars j.form.jump.cW))))))) λ(B:Bool)=>ab B (some false) (aa (aa (tW (j,j.form.jump.at_)) λk=>ab (!k) (aa (tW (j,j.form.jump.to)) λF=>ab (!F) (aa (tW (j,j.form.jump.cW)) λG=>some (!G)) (some false)) (some false)) λ(k:Bool)=>some k))
def Ak:(Order×Cut)->Option Bool:=λ(k,j)=>aa (ab (leI 0 j.from_) (ab (ah j.from_ j.aO) (ab (leI j.aO k.form.bars) (ab (leI 0 j.pass) (some (leI j.pass 20)) (some false)) (some false)) (some false)) (some false)) λ(B:Bool)=>some B
def Ah:Order->Option Bool:=λ(k)=>aQ (ay (λj:(Int×(List (Cut×Bool)))=>ab (ah j.1 (k.form.ba.length:Int)) (aa (au k.form.ba j.1) λB=>aa (aa (Ak (k,B)) λF=>ab (!F) (some true) (some (lS 10 j.2 B false))) λ(F:Bool)=>ab F (some (.inr (.inr false))) (ae (ai (j.1+1)) <|some (.inl ((j.1+1),(kc 10 j.2 B true))))) (some (.inr (.inl ())))) (0,([]:List (Cut×Bool)))) λ(j:Unit)=>some (leI (k.form.ba.length:Int) 100)
def E8:Order->Option Order:=λ(j)=>some j
def wx:(Order×(Int×(Int×Bool)))->Option (Int×(Int×(Order×Bool))):=λ(j,k,B,F)=>some (k,(B,(j,F)))
def E6:(Ending×(Int×Int))->Option Bool:=λ(j,k,B)=>aa (ab (leI j.from_ k) (ab (ah k j.aO) (some (!(aA j.pass B))) (some false)) (some false)) λ(F:Bool)=>some F
def Fi:((List Ending)×(Int×Int))->Option Int:=λ(k,B)=>aQ (ay (λj:Int=>ab (ah j (k.length:Int)) (aa (au k j) λF=>aa (E6 (F,(B.1,B.2))) λG=>ab G (some (.inr (.inr j))) (ae (ai (j+1)) <|some (.inl (j+1)))) (some (.inr (.inl ())))) 0) λ(j:Unit)=>some (-1)
def Fb:((List Ending)×(Int×Int))->Option Bool:=λ(j,k)=>aa (Fi (j,k)) λB=>some (leI 0 B)
def iD:(Order×(Int×Int))->Option Bool:=λ(j,k,B)=>aa (Fb (j.form.bz,(k,B))) λF=>some F
def Am:Order->Option Bool:=λ(Z)=>aQ (aa (E8 Z) λU=>aa (ab (aA U.form.jump.at_ 0) (some U.form.bars) (some U.form.jump.at_)) λ(ad:Int)=>aQ (aa (wx (U,(0,(ad,true)))) λN=>ay (λF:(Int×((List (Int×Int))×Int))=>ab (ah F.2.2 N.2.1) (aQ (aa (aQ (ay (λk:Int=>ab (ah k (N.2.2.1.form.aX.length:Int)) (aa (au N.2.2.1.form.aX k) λG=>ab (aA G.from_ F.2.2) (some (.inr (.inr k))) (ae (ai (k+1)) <|some (.inl (k+1)))) (some (.inr (.inl ())))) 0) λ(k:Unit)=>some (-1)) λ(k:Int)=>ab (ah k 0) (ae (ai ((an F.2.1 F.2.2 0)+1)) <|ae (ai (F.1+1)) <|ab (ah 20000 (F.1+1)) (some (.inr (.inr (.inr (.inr false))))) (some (.inl ((F.1+1),((aH F.2.1 F.2.2 ((an F.2.1 F.2.2 0)+1)),F.2.2))))) (aa (au N.2.2.1.form.aX k) λG=>aa (ab N.2.2.2 (some 1) (some G.times)) λ(O:Int)=>aQ (ay (λM:(Int×(Int×(List (Int×Int))))=>ab (leI M.1 G.times) (aQ (ay (λj:(Int×(Int×(List (Int×Int))))=>ab (ah j.1 G.aO) (aQ (aa (iD (N.2.2.1,(j.1,M.1))) λB=>ab (!B) (ae (ai ((an j.2.2 j.1 0)+1)) <|ae (ai (j.2.1+1)) <|ab (ah 20000 (j.2.1+1)) (some (.inr (.inr (.inr (.inr (.inr (.inr (.inr (.inr (.inr false)))))))))) (some (.inl ((j.2.1+1),(aH j.2.2 j.1 ((an j.2.2 j.1 0)+1)))))) (some (.inl (j.2.1,j.2.2)))) λ(B:(Int×(List (Int×Int))))=>ae (ai (j.1+1)) <|some (.inl ((j.1+1),(B.1,B.2)))) (some (.inr (.inl (j.2.1,j.2.2))))) (G.from_,(M.2.1,M.2.2))) λ(j:(Int×(List (Int×Int))))=>ae (ai (M.1+1)) <|some (.inl ((M.1+1),(j.1,j.2)))) (some (.inr (.inl (M.2.1,M.2.2))))) (O,(F.1,F.2.1))) λ(M:(Int×(List (Int×Int))))=>ae (ai (G.aO-1)) <|some (.inl (M.1,(M.2,(G.aO-1)))))) λ(k:(Int×((List (Int×Int))×Int)))=>ae (ai (k.2.2+1)) <|some (.inl (k.1,(k.2.1,(k.2.2+1))))) (some (.inr (.inl (F.1,F.2.1))))) (0,(([]:List (Int×Int)),N.1))) λ(N:(Int×(List (Int×Int))))=>aa (wx (U,(U.form.jump.to,(U.form.jump.cW,false)))) λF=>ay (λk:(Int×((List (Int×Int))×Int))=>ab (ah k.2.2 F.2.1) (aQ (aa (aQ (ay (λG:Int=>ab (ah G (F.2.2.1.form.aX.length:Int)) (aa (au F.2.2.1.form.aX G) λO=>ab (aA O.from_ k.2.2) (some (.inr (.inr G))) (ae (ai (G+1)) <|some (.inl (G+1)))) (some (.inr (.inl ())))) 0) λ(G:Unit)=>some (-1)) λ(G:Int)=>ab (ah G 0) (ae (ai ((an k.2.1 k.2.2 0)+1)) <|ae (ai (k.1+1)) <|ab (ah 20000 (k.1+1)) (some (.inr (.inr (.inr false)))) (some (.inl ((k.1+1),((aH k.2.1 k.2.2 ((an k.2.1 k.2.2 0)+1)),k.2.2))))) (aa (au F.2.2.1.form.aX G) λO=>aa (ab F.2.2.2 (some 1) (some O.times)) λ(M:Int)=>aQ (ay (λj:(Int×(Int×(List (Int×Int))))=>ab (leI j.1 O.times) (aQ (ay (λB:(Int×(Int×(List (Int×Int))))=>ab (ah B.1 O.aO) (aQ (aa (iD (F.2.2.1,(B.1,j.1))) λY=>ab (!Y) (ae (ai ((an B.2.2 B.1 0)+1)) <|ae (ai (B.2.1+1)) <|ab (ah 20000 (B.2.1+1)) (some (.inr (.inr (.inr (.inr (.inr (.inr (.inr (.inr false))))))))) (some (.inl ((B.2.1+1),(aH B.2.2 B.1 ((an B.2.2 B.1 0)+1)))))) (some (.inl (B.2.1,B.2.2)))) λ(Y:(Int×(List (Int×Int))))=>ae (ai (B.1+1)) <|some (.inl ((B.1+1),(Y.1,Y.2)))) (some (.inr (.inl (B.2.1,B.2.2))))) (O.from_,(j.2.1,j.2.2))) λ(B:(Int×(List (Int×Int))))=>ae (ai (j.1+1)) <|some (.inl ((j.1+1),(B.1,B.2)))) (some (.inr (.inl (j.2.1,j.2.2))))) (M,(k.1,k.2.1))) λ(j:(Int×(List (Int×Int))))=>ae (ai (O.aO-1)) <|some (.inl (j.1,(j.2,(O.aO-1)))))) λ(G:(Int×((List (Int×Int))×Int)))=>ae (ai (G.2.2+1)) <|some (.inl (G.1,(G.2.1,(G.2.2+1))))) (some (.inr (.inl ())))) (N.1,(N.2,F.1))) λ(U:Unit)=>some true
def Ag:Form->Option Bool:=λ(j)=>aa (ab (leI 1 j.bars) (ab (leI j.bars 4000) (aa (Aj (⟨j⟩:Order)) λk=>ab k (aa (Ai (⟨j⟩:Order)) λB=>ab B (aa (Al (⟨j⟩:Order)) λF=>ab F (aa (Ah (⟨j⟩:Order)) λG=>ab G (aa (Am (⟨j⟩:Order)) λM=>some M) (some false)) (some false)) (some false)) (some false)) (some false)) (some false)) λ(k:Bool)=>some k
def E4:(Cut×aF)->Option Bool:=λ(j,k)=>aa (ab (leI j.from_ k.az) (ab (ah k.az j.aO) (ab (aA j.pass 0) (some true) (some (aA j.pass k.pass))) (some false)) (some false)) λ(B:Bool)=>some B
def Fh:((List Cut)×aF)->Option Int:=λ(k,B)=>aQ (ay (λj:Int=>ab (ah j (k.length:Int)) (aa (au k j) λF=>aa (E4 (F,B)) λG=>ab G (some (.inr (.inr j))) (ae (ai (j+1)) <|some (.inl (j+1)))) (some (.inr (.inl ())))) 0) λ(j:Unit)=>some (-1)
def iF:((List Cut)×aF)->Option Bool:=λ(j,k)=>aa (Fh (j,k)) λB=>some (leI 0 B)
def rA:Form->Option ((List aF)×Int):=λ(Y)=>aa (Ag Y) λag=>ab (!ag) (some (([]:List aF),1)) (aa (aa (E8 (⟨Y⟩:Order)) λU=>aa (ab (aA U.form.jump.at_ 0) (some U.form.bars) (some U.form.jump.at_)) λ(af:Int)=>aa (aa (wx (U,(0,(af,true)))) λO=>ay (λF:((List (Int×Int))×(Int×(List aF)))=>ab (ah F.2.1 O.2.1) (aa (aa (aQ (ay (λk:Int=>ab (ah k (O.2.2.1.form.aX.length:Int)) (aa (au O.2.2.1.form.aX k) λG=>ab (aA G.from_ F.2.1) (some (.inr (.inr k))) (ae (ai (k+1)) <|some (.inl (k+1)))) (some (.inr (.inl ())))) 0) λ(k:Unit)=>some (-1)) λ(k:Int)=>ab (ah k 0) (ae (ai ((an F.1 F.2.1 0)+1)) <|aa (aa (iF (Y.ba,(⟨F.2.1,(an (aH F.1 F.2.1 ((an F.1 F.2.1 0)+1)) F.2.1 0)⟩:aF))) λG=>ab (!G) (ae (decide ((List.append F.2.2 ((⟨F.2.1,(an (aH F.1 F.2.1 ((an F.1 F.2.1 0)+1)) F.2.1 0)⟩:aF)::([]:List aF))).length*16<=140737488355328/\(List.append F.2.2 ((⟨F.2.1,(an (aH F.1 F.2.1 ((an F.1 F.2.1 0)+1)) F.2.1 0)⟩:aF)::([]:List aF))).length<=9223372036854775807)) <|some (List.append F.2.2 ((⟨F.2.1,(an (aH F.1 F.2.1 ((an F.1 F.2.1 0)+1)) F.2.1 0)⟩:aF)::([]:List aF)))) (some F.2.2)) λ(G:(List aF))=>some ((aH F.1 F.2.1 ((an F.1 F.2.1 0)+1)),(F.2.1,G))) (aa (au O.2.2.1.form.aX k) λG=>aa (ab O.2.2.2 (some 1) (some G.times)) λ(M:Int)=>aa (ay (λN:(Int×((List (Int×Int))×(List aF)))=>ab (leI N.1 G.times) (aa (ay (λj:(Int×((List (Int×Int))×(List aF)))=>ab (ah j.1 G.aO) (aa (aa (iD (O.2.2.1,(j.1,N.1))) λB=>ab (!B) (ae (ai ((an j.2.1 j.1 0)+1)) <|aa (aa (iF (Y.ba,(⟨j.1,(an (aH j.2.1 j.1 ((an j.2.1 j.1 0)+1)) j.1 0)⟩:aF))) λZ=>ab (!Z) (ae (decide ((List.append j.2.2 ((⟨j.1,(an (aH j.2.1 j.1 ((an j.2.1 j.1 0)+1)) j.1 0)⟩:aF)::([]:List aF))).length*16<=140737488355328/\(List.append j.2.2 ((⟨j.1,(an (aH j.2.1 j.1 ((an j.2.1 j.1 0)+1)) j.1 0)⟩:aF)::([]:List aF))).length<=9223372036854775807)) <|some (List.append j.2.2 ((⟨j.1,(an (aH j.2.1 j.1 ((an j.2.1 j.1 0)+1)) j.1 0)⟩:aF)::([]:List aF)))) (some j.2.2)) λ(Z:(List aF))=>some ((aH j.2.1 j.1 ((an j.2.1 j.1 0)+1)),Z)) (some (j.2.1,j.2.2))) λ(B:((List (Int×Int))×(List aF)))=>ae (ai (j.1+1)) <|some (.inl ((j.1+1),(B.1,B.2)))) (some (.inr (j.2.1,j.2.2)))) (G.from_,(N.2.1,N.2.2))) λ(j:((List (Int×Int))×(List aF)))=>ae (ai (N.1+1)) <|some (.inl ((N.1+1),(j.1,j.2)))) (some (.inr (N.2.1,N.2.2)))) (M,(F.1,F.2.2))) λ(N:((List (Int×Int))×(List aF)))=>ae (ai (G.aO-1)) <|some (N.1,((G.aO-1),N.2)))) λ(k:((List (Int×Int))×(Int×(List aF))))=>ae (ai (k.2.1+1)) <|some (.inl (k.1,((k.2.1+1),k.2.2)))) (some (.inr (F.2.2,F.1)))) (([]:List (Int×Int)),(O.1,([]:List aF)))) λ(O:((List aF)×(List (Int×Int))))=>aa (wx (U,(U.form.jump.to,(U.form.jump.cW,false)))) λF=>ay (λk:((List aF)×((List (Int×Int))×Int))=>ab (ah k.2.2 F.2.1) (aa (aa (aQ (ay (λG:Int=>ab (ah G (F.2.2.1.form.aX.length:Int)) (aa (au F.2.2.1.form.aX G) λM=>ab (aA M.from_ k.2.2) (some (.inr (.inr G))) (ae (ai (G+1)) <|some (.inl (G+1)))) (some (.inr (.inl ())))) 0) λ(G:Unit)=>some (-1)) λ(G:Int)=>ab (ah G 0) (ae (ai ((an k.2.1 k.2.2 0)+1)) <|aa (aa (iF (Y.ba,(⟨k.2.2,(an (aH k.2.1 k.2.2 ((an k.2.1 k.2.2 0)+1)) k.2.2 0)⟩:aF))) λM=>ab (!M) (ae (decide ((List.append k.1 ((⟨k.2.2,(an (aH k.2.1 k.2.2 ((an k.2.1 k.2.2 0)+1)) k.2.2 0)⟩:aF)::([]:List aF))).length*16<=140737488355328/\(List.append k.1 ((⟨k.2.2,(an (aH k.2.1 k.2.2 ((an k.2.1 k.2.2 0)+1)) k.2.2 0)⟩:aF)::([]:List aF))).length<=9223372036854775807)) <|some (List.append k.1 ((⟨k.2.2,(an (aH k.2.1 k.2.2 ((an k.2.1 k.2.2 0)+1)) k.2.2 0)⟩:aF)::([]:List aF)))) (some k.1)) λ(M:(List aF))=>some ((aH k.2.1 k.2.2 ((an k.2.1 k.2.2 0)+1)),(k.2.2,M))) (aa (au F.2.2.1.form.aX G) λM=>aa (ab F.2.2.2 (some 1) (some M.times)) λ(N:Int)=>aa (ay (λj:(Int×((List aF)×(List (Int×Int))))=>ab (leI j.1 M.times) (aa (ay (λB:(Int×((List aF)×(List (Int×Int))))=>ab (ah B.1 M.aO) (aa (aa (iD (F.2.2.1,(B.1,j.1))) λZ=>ab (!Z) (ae (ai ((an B.2.2 B.1 0)+1)) <|aa (aa (iF (Y.ba,(⟨B.1,(an (aH B.2.2 B.1 ((an B.2.2 B.1 0)+1)) B.1 0)⟩:aF))) λad=>ab (!ad) (ae (decide ((List.append B.2.1 ((⟨B.1,(an (aH B.2.2 B.1 ((an B.2.2 B.1 0)+1)) B.1 0)⟩:aF)::([]:List aF))).length*16<=140737488355328/\(List.append B.2.1 ((⟨B.1,(an (aH B.2.2 B.1 ((an B.2.2 B.1 0)+1)) B.1 0)⟩:aF)::([]:List aF))).length<=9223372036854775807)) <|some (List.append B.2.1 ((⟨B.1,(an (aH B.2.2 B.1 ((an B.2.2 B.1 0)+1)) B.1 0)⟩:aF)::([]:List aF)))) (some B.2.1)) λ(ad:(List aF))=>some ((aH B.2.2 B.1 ((an B.2.2 B.1 0)+1)),ad)) (some (B.2.2,B.2.1))) λ(Z:((List (Int×Int))×(List aF)))=>ae (ai (B.1+1)) <|some (.inl ((B.1+1),(Z.2,Z.1)))) (some (.inr (B.2.1,B.2.2)))) (M.from_,(j.2.1,j.2.2))) λ(B:((List aF)×(List (Int×Int))))=>ae (ai (j.1+1)) <|some (.inl ((j.1+1),(B.1,B.2)))) (some (.inr (j.2.1,j.2.2)))) (N,(k.1,k.2.1))) λ(j:((List aF)×(List (Int×Int))))=>ae (ai (M.aO-1)) <|some (j.2,((M.aO-1),j.1)))) λ(G:((List (Int×Int))×(Int×(List aF))))=>ae (ai (G.2.1+1)) <|some (.inl (G.2.2,(G.1,(G.2.1+1))))) (some (.inr k.1))) (O.1,(O.2,F.1))) λ(U:(List aF))=>some (U,0))
def l5:Rat->Option Bool:=λ(j)=>aa (ab (ah j.d 1) (some true) (ab (ah 1000000 j.d) (some true) (ab (ah j.n (-1000000000)) (some true) (some (ah 1000000000 j.n))))) λ(k:Bool)=>ab k (some false) (aa (tV (⟨j.n,j.d⟩:Fraction)) λB=>some (HZ B (⟨j.n,j.d⟩:Fraction)))
def zu:Rat->Option Bool:=λ(j)=>aa (aa (l5 j) λk=>ab k (ab (leI 0 j.n) (ae (!(aA j.d 0)) <|some (aA (Int.tmod 1680 j.d) 0)) (some false)) (some false)) λ(k:Bool)=>some k
def ry:(Int×(Int×Int))->Option Bool:=λ(j,k,B)=>aa (ab (leI k j) (some (leI j B)) (some false)) λ(F:Bool)=>some F
def gY:aP->Option Bool:=λ(j)=>aa (aa (ry (j.step,(0,6))) λk=>ab k (aa (ry (j.alter,((-4),4))) λB=>ab B (aa (ry (j.aZ,((-8),20))) λF=>some F) (some false)) (some false)) λ(k:Bool)=>some k
def zt:Written->Option Bool:=λ(j)=>aa (ab (leI 0 j.bc) (ab (leI j.bc 9) (ab (leI 0 j.bF) (ab (leI j.bF 20) (aa (zu j.start) λk=>ab k (aa (gY j.aR) λB=>some B) (some false)) (some false)) (some false)) (some false)) (some false)) λ(k:Bool)=>some k
def EN:Written->Option Bool:=λ(j)=>aa (zt j) λk=>some (!k)
def AD:((List Written)×Unit)->Option Bool:=λ(k,G)=>aa (aQ (ay (λj:Int=>ab (ah j (k.length:Int)) (aa (au k j) λB=>aa (EN B) λF=>ab F (some (.inr (.inr j))) (ae (ai (j+1)) <|some (.inl (j+1)))) (some (.inr (.inl ())))) 0) λ(j:Unit)=>some (-1)) λ(j:Int)=>some (leI 0 j)
def rn:View->Option Bool:=λ(B)=>aQ (ay (λj:(Int×Int)=>ab (ah j.2 (B.bh.length:Int)) (aa (au B.bh j.2) λk=>ae (ai (j.1+(k.notes.length:Int))) <|aa (AD (k.notes,())) λF=>ab F (some (.inr (.inr false))) (ae (ai (j.2+1)) <|some (.inl ((j.1+(k.notes.length:Int)),(j.2+1))))) (some (.inr (.inl j.1)))) (0,0)) λ(j:Int)=>aa (ab (leI (B.bh.length:Int) 4000) (some (leI j 20000)) (some false)) λ(k:Bool)=>some k
def LG:(List Int)->Option (List Int):=λ(j)=>some j
def AB:((List Written)×Int)->Option Bool:=λ(k,B)=>aa (aQ (ay (λj:Int=>ab (ah j (k.length:Int)) (aa (au k j) λF=>ab (aA F.bF B) (some (.inr (.inr j))) (ae (ai (j+1)) <|some (.inl (j+1)))) (some (.inr (.inl ())))) 0) λ(j:Unit)=>some (-1)) λ(j:Int)=>some (leI 0 j)
def zo:(aL×(List Int))->Option Int:=λ(G,M)=>aa (aa (LG M) λk=>ae (ai ((k.length:Int)-1)) <|ay (λj:(Int×Int)=>ab (leI 0 j.1) (aa (au k j.1) λF=>aa (aa (AB (G.notes,F)) λB=>ab B (some F) (some j.2)) λ(B:Int)=>ae (ai (j.1-1)) <|some (.inl ((j.1-1),B))) (some (.inr j.2))) (((k.length:Int)-1),0)) λ(k:Int)=>some k
def wa:(aL×(List Int))->Option aL:=λ(B,N)=>aa (zo (B,N)) λM=>aa (oi (List.isEmpty B.notes) (some ([]:List Written)) (ae (decide ((List.append ([]:List Written) B.notes).length*80<=140737488355328/\(List.append ([]:List Written) B.notes).length<=9223372036854775807)) <|some (List.append ([]:List Written) B.notes))) λ(F:(List Written))=>aa (aa (aQ (ay (λk:Int=>ab (ah k (F.length:Int)) (ae ((leI 0 k)&&(ah k (F.length:Int))) <|aa (au F k) λj=>ab (!(aA j.bF M)) (some (.inr (.inr k))) (ae (ai (k+1)) <|some (.inl (k+1)))) (some (.inr (.inl ())))) 0) λ(k:Unit)=>some (-1)) λ(k:Int)=>ab (aA k (-1)) (some F) (aa (ae (ai (k+1)) <|ay (λj:(Int×(Int×(List Written)))=>ab (ah j.2.1 (j.2.2.length:Int)) (aa (ae ((leI 0 j.2.1)&&(ah j.2.1 (j.2.2.length:Int))) <|aa (au j.2.2 j.2.1) λG=>ab (!(!(aA G.bF M))) (ae ((leI 0 j.1)&&(ah j.1 (j.2.2.length:Int))) <|aa (au j.2.2 j.1) λO=>ae (ai (j.1+1)) <|some ((j.1+1),(List.set j.2.2 (Int.toNat j.1) G))) (some (j.1,j.2.2))) λ(G:(Int×(List Written)))=>ae (ai (j.2.1+1)) <|some (.inl (G.1,((j.2.1+1),G.2)))) (some (.inr (j.1,j.2.2)))) (k,((k+1),F))) λ(j:(Int×(List Written)))=>ae ((leI 0 j.1)&&(leI j.1 (j.2.length:Int))) <|ae ((leI 0 j.1)&&(leI j.1 ((List.append (List.take (Int.toNat j.1) j.2) (List.replicate (Int.toNat ((j.2.length:Int)-j.1)) ((⟨0,0,0,(⟨0,0⟩:Rat),(⟨0,0⟩:Rat),(⟨0,0,0⟩:aP)⟩:Written):Written))).length:Int))) <|some (List.take (Int.toNat j.1) (List.append (List.take (Int.toNat j.1) j.2) (List.replicate (Int.toNat ((j.2.length:Int)-j.1)) ((⟨0,0,0,(⟨0,0⟩:Rat),(⟨0,0⟩:Rat),(⟨0,0,0⟩:aP)⟩:Written):Written)))))) λ(k:(List Written))=>some (⟨B.az,B.key,B.length,k⟩:aL)
def EM:((List aL)×(List Int))->Option (List aL):=λ(B,F)=>aa (ay (λj:(Int×(List aL))=>ab (ah j.1 (B.length:Int)) (aa (au B j.1) λG=>aa (wa (G,F)) λk=>ae (decide ((List.append j.2 (k::([]:List aL))).length*56<=140737488355328/\(List.append j.2 (k::([]:List aL))).length<=9223372036854775807)) <|ae (ai (j.1+1)) <|some (.inl ((j.1+1),(List.append j.2 (k::([]:List aL)))))) (some (.inr j.2))) (0,([]:List aL))) λ(j:(List aL))=>some j
def EP:(View×(List Int))->Option View:=λ(j,k)=>aa (EM (j.bh,k)) λB=>some (⟨j.part,B⟩:View)
def lY:(View×(List Int))->Option (View×Int):=λ(G,B)=>aQ (ay (λj:Int=>ab (ah j (B.length:Int)) (aa (au B j) λF=>aa (ab (ah F 1) (some true) (ab (ah 20 F) (some true) (ab (ah 0 j) (ae (ai (j-1)) <|aa (au B (j-1)) λk=>some (leI F k)) (some false)))) λ(k:Bool)=>ab k (some (.inr (.inr ((⟨0,([]:List aL)⟩:View),1)))) (ae (ai (j+1)) <|some (.inl (j+1)))) (some (.inr (.inl ())))) 0) λ(j:Unit)=>aa (rn G) λF=>ab (!F) (some ((⟨0,([]:List aL)⟩:View),1)) (aa (EP (G,B)) λk=>some (k,0))
def iE:(Int×(Int×Int))->Option Bool:=λ(j,k,B)=>aa (ab (leI k j) (some (leI j B)) (some false)) λ(F:Bool)=>some F
def tY:Int->Option Bool:=λ(j)=>aa (iE (j,(1,1000000))) λk=>some k
def wc:Rat->Option Bool:=λ(j)=>aa (aa (l5 j) λk=>ab k (ab (leI 0 j.n) (ae (!(aA j.d 0)) <|some (aA (Int.tmod 1680 j.d) 0)) (some false)) (some false)) λ(k:Bool)=>some k
def pO:(Rat×Rat)->Option (Int×Int):=λ(j,k)=>aa (aa (l5 j) λB=>ab (!B) (some true) (aa (l5 k) λF=>some (!F))) λ(B:Bool)=>ab B (some (0,1)) (ae (ai (j.n*k.d)) <|ae (ai (k.n*j.d)) <|ab (ah (j.n*k.d) (k.n*j.d)) (some ((-1),0)) (ab (ah (k.n*j.d) (j.n*k.d)) (some (1,0)) (some (0,0))))
def we:(Rat×Rat)->Option Bool:=λ(j,k)=>aa (pO (j,k)) λB=>some (ah B.1 0)
def tN:(List aM)->Option Bool:=λ(B)=>aQ (ay (λk:(Int×(List (Int×Bool)))=>ab (ah k.1 (B.length:Int)) (aa (au B k.1) λj=>aa (ab (ah j.id 1) (some true) (ab (ah 1000000 j.id) (some true) (ab (an k.2 j.id false) (some true) (ab (ah j.key (-7)) (some true) (some (ah 7 j.key)))))) λ(G:Bool)=>ab G (some (.inr (.inr false))) (aa (aa (wc j.length) λF=>ab (!F) (some true) (ab (aA j.length.n 0) (some true) (aa (we ((⟨24,1⟩:Rat),j.length)) λM=>some M))) λ(F:Bool)=>ab F (some (.inr (.inr false))) (ae (ai (k.1+1)) <|some (.inl ((k.1+1),(aH k.2 j.id true)))))) (some (.inr (.inl ())))) (0,([]:List (Int×Bool)))) λ(k:Unit)=>aa (ab (leI 1 (B.length:Int)) (some (leI (B.length:Int) 4000)) (some false)) λ(j:Bool)=>some j
def ru:Interval->Option Bool:=λ(k)=>aa (aa (ry (k.steps,((-70),70))) λj=>ab j (aa (ry (k.cg,((-120),120))) λB=>some B) (some false)) λ(j:Bool)=>some j
def ou:Interval->Option (Interval×Int):=λ(j)=>aa (ru j) λk=>ab (!k) (some ((⟨0,0⟩:Interval),1)) (ae (ai (jH j.steps)) <|ae (ai (jH j.cg)) <|some ((⟨(jH j.steps),(jH j.cg)⟩:Interval),0))
def ER:Interval->Option Bool:=λ(j)=>aa (ou j) λk=>some (aA k.2 0)
def tJ:Interval->Option (Int×Int):=λ(j)=>aa (ER j) λk=>ab (!k) (some (0,1)) (ae (ai (7*j.cg)) <|ae (ai (12*j.steps)) <|ae (ai ((7*j.cg)-(12*j.steps))) <|some (((7*j.cg)-(12*j.steps)),0))
def rB:Interval->Option Bool:=λ(j)=>aa (tJ j) λB=>aa (ab (aA B.2 0) (aa (iE (j.steps,((-21),21))) λk=>ab k (aa (iE (j.cg,((-36),36))) λF=>ab F (aa (iE (B.1,((-12),12))) λG=>some G) (some false)) (some false)) (some false)) λ(k:Bool)=>some k
def pL:aP->Option Int:=λ(j)=>ae (ai (12*j.aZ)) <|aa (au (0::(2::(4::(5::(7::(9::(11::([]:List Int)))))))) j.step) λk=>ae (ai ((12*j.aZ)+k)) <|ae (ai (((12*j.aZ)+k)+j.alter)) <|some (((12*j.aZ)+k)+j.alter)
def lZ:aP->Option (Int×Int):=λ(j)=>aa (gY j) λB=>ab (!B) (some (0,1)) (aa (pL j) λk=>some (k,0))
def mZ:aP->Option Int:=λ(j)=>aa (lZ j) λk=>some k.1
def Ar:Part->Option Bool:=λ(j)=>aa (aa (tY j.id) λM=>ab M (aa (iE (j.nm,(0,99))) λk=>ab k (aa (iE (j.of,(0,1000000))) λB=>ab B (aa (iE (j.aZ,((-2),2))) λF=>ab F (aa (iE (j.ed,(1,40))) λG=>some G) (some false)) (some false)) (some false)) (some false)) λ(M:Bool)=>aa (ab (!M) (some true) (ab (aA j.of j.id) (some true) (ab (aA j.of 0) (ab (!(aA j.aZ 0)) (some true) (aa (rB j.shift) λk=>some (!k))) (aa (rB j.shift) λk=>some (!k))))) λ(k:Bool)=>ab k (some false) (aa (aa (gY j.low) λB=>ab B (aa (gY j.high) λF=>ab F (aa (mZ j.low) λG=>aa (mZ j.high) λN=>some (leI G N)) (some false)) (some false)) λ(B:Bool)=>some B)
def Ap:(Part×(List (Int×Part)))->Option Bool:=λ(j,k)=>aa (ab (!(aA j.of 0)) (ab (!(dq k j.of)) (some true) (some (!(aA (an k j.of (⟨0,0,0,0,0,(⟨0,0⟩:Interval),(⟨0,0,0⟩:aP),(⟨0,0,0⟩:aP)⟩:Part)).of 0)))) (some false)) λ(B:Bool)=>some B
def AE:((List Part)×(List (Int×Part)))->Option Int:=λ(k,B)=>aQ (ay (λj:Int=>ab (ah j (k.length:Int)) (aa (au k j) λF=>aa (Ap (F,B)) λG=>ab G (some (.inr (.inr j))) (ae (ai (j+1)) <|some (.inl (j+1)))) (some (.inr (.inl ())))) 0) λ(j:Unit)=>some (-1)
def Ay:((List Part)×(List (Int×Part)))->Option Bool:=λ(j,k)=>aa (AE (j,k)) λB=>some (leI 0 B)
def Ao:(List Part)->Option Bool:=λ(B)=>aa (iE ((B.length:Int),(1,60))) λF=>ab (!F) (some false) (aQ (ay (λj:(Int×(List (Int×Part)))=>ab (ah j.1 (B.length:Int)) (aa (au B j.1) λk=>aa (Ar k) λG=>ab (!G) (some (.inr (.inr false))) (ae (ai (j.1+1)) <|some (.inl ((j.1+1),(aH j.2 k.id k))))) (some (.inr (.inl j.2)))) (0,([]:List (Int×Part)))) λ(j:(List (Int×Part)))=>aa (ab (aA (j.length:Int) (B.length:Int)) (aa (Ay (B,j)) λk=>some (!k)) (some false)) λ(k:Bool)=>some k)
def wh:(List aM)->Option (List (Int×Int)):=λ(k)=>aa (ay (λj:(Int×(List (Int×Int)))=>ab (ah j.1 (k.length:Int)) (aa (au k j.1) λB=>ae (ai (j.1+1)) <|some (.inl ((j.1+1),(aH j.2 B.id j.1)))) (some (.inr j.2))) (0,([]:List (Int×Int)))) λ(j:(List (Int×Int)))=>some j
def pK:Rat->Option (Int×Bool):=λ(j)=>aa (aa (l5 j) λk=>ab (!k) (some true) (ab (ah j.n 0) (some true) (ae (!(aA j.d 0)) <|some (!(aA (Int.tmod 1680 j.d) 0))))) λ(k:Bool)=>ab k (some (0,false)) (ae (!(aA j.d 0)) <|ae (ai (Int.tdiv 1680 j.d)) <|ae (ai (j.n*(Int.tdiv 1680 j.d))) <|some ((j.n*(Int.tdiv 1680 j.d)),true))
def rq:(Int×(Int×Int))->Option Bool:=λ(j,k,B)=>aa (ab (leI k j) (some (leI j B)) (some false)) λ(F:Bool)=>some F
def wi:Int->Option Bool:=λ(j)=>aa (rq (j,(1,1000000))) λk=>some k
def zJ:aP->Option Bool:=λ(j)=>aa (aa (gY j) λk=>ab k (aa (rq (j.alter,((-2),2))) λB=>ab B (aa (rq (j.aZ,(0,9))) λF=>some F) (some false)) (some false)) λ(k:Bool)=>some k
def zH:(aM×aq)->Option Bool:=λ(G,j)=>aa (pK j.start) λB=>aa (pK j.length) λk=>aa (pK G.length) λM=>aa (ab B.2 (ab k.2 (ab (ah 0 k.1) (ae (ai (B.1+k.1)) <|ab (leI (B.1+k.1) M.1) (aa (wi j.id) λF=>ab F (aa (wi j.part) λN=>ab N (aa (rq (j.bc,(0,9))) λO=>ab O (aa (rq (j.bF,(0,20))) λU=>ab U (aa (zJ j.aR) λY=>some Y) (some false)) (some false)) (some false)) (some false)) (some false)) (some false)) (some false)) (some false)) λ(F:Bool)=>some F
def wg:((List aM)×(List aq))->Option Bool:=λ(B,F)=>aa (aa (tN B) λM=>ab (!M) (some true) (some (ah 20000 (F.length:Int)))) λ(M:Bool)=>ab M (some false) (aa (wh B) λN=>aQ (ay (λj:(Int×(List (Int×Bool)))=>ab (ah j.1 (F.length:Int)) (aa (au F j.1) λk=>aa (ab (!(dq N k.az)) (some true) (ab (an j.2 k.id false) (some true) (aa (au B (an N k.az 0)) λG=>aa (zH (G,k)) λO=>some (!O)))) λ(G:Bool)=>ab G (some (.inr (.inr false))) (ae (ai (j.1+1)) <|some (.inl ((j.1+1),(aH j.2 k.id true))))) (some (.inr (.inl ())))) (0,([]:List (Int×Bool)))) λ(j:Unit)=>some true)
def Au:(aq×(List (Int×Part)))->Option Bool:=λ(j,k)=>some (!(dq k j.part))
def Fj:((List aq)×(List (Int×Part)))->Option Int:=λ(k,B)=>aQ (ay (λj:Int=>ab (ah j (k.length:Int)) (aa (au k j) λF=>aa (Au (F,B)) λG=>ab G (some (.inr (.inr j))) (ae (ai (j+1)) <|some (.inl (j+1)))) (some (.inr (.inl ())))) 0) λ(j:Unit)=>some (-1)
def Aw:((List aq)×(List (Int×Part)))->Option Bool:=λ(j,k)=>aa (Fj (j,k)) λB=>some (leI 0 B)
def Av:(aq×(List (Int×Part)))->Option Bool:=λ(j,k)=>aa (mZ j.aR) λB=>aa (mZ (an k j.part (⟨0,0,0,0,0,(⟨0,0⟩:Interval),(⟨0,0,0⟩:aP),(⟨0,0,0⟩:aP)⟩:Part)).low) λF=>aa (mZ (an k j.part (⟨0,0,0,0,0,(⟨0,0⟩:Interval),(⟨0,0,0⟩:aP),(⟨0,0,0⟩:aP)⟩:Part)).high) λG=>aa (iE (B,(F,G))) λM=>some (!M)
def Fk:((List aq)×(List (Int×Part)))->Option Int:=λ(k,B)=>aQ (ay (λj:Int=>ab (ah j (k.length:Int)) (aa (au k j) λF=>aa (Av (F,B)) λG=>ab G (some (.inr (.inr j))) (ae (ai (j+1)) <|some (.inl (j+1)))) (some (.inr (.inl ())))) 0) λ(j:Unit)=>some (-1)
def Ax:((List aq)×(List (Int×Part)))->Option Bool:=λ(j,k)=>aa (Fk (j,k)) λB=>some (leI 0 B)
def wy:((List Part)×(List aq))->Option Int:=λ(B,F)=>aa (ay (λj:(Int×(List (Int×Part)))=>ab (ah j.1 (B.length:Int)) (aa (aa (au B j.1) λk=>ab (aA k.of 0) (some (aH j.2 k.id k)) (some j.2)) λ(k:(List (Int×Part)))=>ae (ai (j.1+1)) <|some (.inl ((j.1+1),k))) (some (.inr j.2))) (0,([]:List (Int×Part)))) λ(j:(List (Int×Part)))=>aa (Aw (F,j)) λk=>ab k (some 22) (aa (Ax (F,j)) λG=>ab G (some 20) (some 0))
def Fg:((List aq)×(List aq))->Option Bool:=λ(k,B)=>ab (!(aA (k.length:Int) (B.length:Int))) (some false) (aQ (ay (λj:Int=>ab (ah j (k.length:Int)) (aa (au k j) λF=>aa (au B j) λG=>ab (!(H3 F G)) (some (.inr (.inr false))) (ae (ai (j+1)) <|some (.inl (j+1)))) (some (.inr (.inl ())))) 0) λ(j:Unit)=>some true)
def Fa:Part->Option Int:=λ(j)=>some j.id
def E9:(Part×(Unit×Int))->Option Bool:=λ(j,F,k)=>aa (Fa j) λB=>some (aA B k)
def AF:((List Part)×(Unit×Int))->Option Int:=λ(k,B)=>aQ (ay (λj:Int=>ab (ah j (k.length:Int)) (aa (au k j) λF=>aa (E9 (F,(B.1,B.2))) λG=>ab G (some (.inr (.inr j))) (ae (ai (j+1)) <|some (.inl (j+1)))) (some (.inr (.inl ())))) 0) λ(j:Unit)=>some (-1)
def Aq:((List Part)×(Int×Unit))->Option (Int×Bool):=λ(k,B,F)=>aa (AF (k,(F,B))) λj=>some ((max j 0),(leI 0 j))
def As:(Score×Part)->Option (Score×(Int×Part)):=λ(k,j)=>aa (ab (aA j.of 0) (some j.id) (some j.of)) λ(B:Int)=>some (k,(B,j))
def Fu:(Part×Int)->Option Bool:=λ(j,k)=>some (aA j.id k)
def AG:((List Part)×Int)->Option Int:=λ(k,B)=>aQ (ay (λj:Int=>ab (ah j (k.length:Int)) (aa (au k j) λF=>aa (Fu (F,B)) λG=>ab G (some (.inr (.inr j))) (ae (ai (j+1)) <|some (.inl (j+1)))) (some (.inr (.inl ())))) 0) λ(j:Unit)=>some (-1)
def ua:(Score×Int)->Option (Reader×Bool):=λ(j,B)=>aa (AG (j.parts,B)) λk=>ab (ah k 0) (some ((⟨(⟨0,0,0,0,0,(⟨0,0⟩:Interval),(⟨0,0,0⟩:aP),(⟨0,0,0⟩:aP)⟩:Part)⟩:Reader),false)) (aa (au j.parts k) λF=>some ((⟨F⟩:Reader),true))
def tG:(Int×Int)->Option Bool:=λ(k,j)=>aa (ae (ai (jH j)) <|ab (leI (jH j) k) (some (leI k j)) (some false)) λ(B:Bool)=>some B
def wb:aP->Option Int:=λ(j)=>aa (lZ j) λk=>some k.1
def tH:Part->Option Bool:=λ(j)=>aa (tJ j.shift) λG=>aa (ab (aA G.2 0) (aa (tG (j.shift.steps,21)) λB=>ab B (aa (tG (j.shift.cg,36)) λk=>ab k (aa (tG (G.1,12)) λF=>some F) (some false)) (some false)) (some false)) λ(B:Bool)=>aa (ab B (aa (gY j.low) λk=>ab k (aa (gY j.high) λF=>ab F (aa (wb j.low) λM=>aa (wb j.high) λN=>some (leI M N)) (some false)) (some false)) (some false)) λ(k:Bool)=>some k
def rp:Int->Option Bool:=λ(j)=>aa (ab (leI (-7) j) (some (leI j 7)) (some false)) λ(k:Bool)=>some k
def tL:(Int×Interval)->Option (Int×(Interval×Int)):=λ(k,F)=>aa (tJ F) λB=>aa (ab (!(aA B.2 0)) (some true) (aa (rp k) λG=>some (!G))) λ(G:Bool)=>ab G (some (0,((⟨0,0⟩:Interval),1))) (ae (ai (B.1+k)) <|aa (ab (ah 0 (B.1+k)) (aa (ay (λj:(Int×Int)=>aa (rp j.2) λM=>ab (!M) (ae (ai (1*12)) <|ae (ai (j.2-(1*12))) <|ae (ai (j.1+1)) <|some (.inl ((j.1+1),(j.2-(1*12))))) (some (.inr (j.1,j.2)))) (F.steps,(B.1+k))) λ(j:(Int×Int))=>some (j.1,j.2)) (aa (ay (λj:(Int×Int)=>aa (rp j.2) λM=>ab (!M) (ae (ai ((-1)*12)) <|ae (ai (j.2-((-1)*12))) <|ae (ai (j.1+(-1))) <|some (.inl ((j.1+(-1)),(j.2-((-1)*12))))) (some (.inr (j.1,j.2)))) (F.steps,(B.1+k))) λ(j:(Int×Int))=>some (j.1,j.2))) λ(j:(Int×Int))=>some (j.2,((⟨j.1,F.cg⟩:Interval),0)))
def EX:aP->Option Int:=λ(j)=>ae (ai (7*j.aZ)) <|ae (ai ((7*j.aZ)+j.step)) <|some ((7*j.aZ)+j.step)
def zL:(Int×Int)->Option (Int×Int):=λ(k,j)=>ae (!(aA j 0)) <|ae (ai (Int.tdiv k j)) <|ae (!(aA j 0)) <|ab (ah (Int.tmod k j) 0) (ae (ai ((Int.tdiv k j)-1)) <|ae (ai ((Int.tmod k j)+j)) <|some (((Int.tdiv k j)-1),((Int.tmod k j)+j))) (some ((Int.tdiv k j),(Int.tmod k j)))
def wj:(aP×Interval)->Option (aP×Int):=λ(B,j)=>aa (aa (gY B) λN=>ab (!N) (some true) (aa (ru j) λG=>some (!G))) λ(N:Bool)=>ab N (some ((⟨0,0,0⟩:aP),1)) (ab (H0 j (⟨0,0⟩:Interval)) (some (B,0)) (aa (EX B) λG=>ae (ai (G+j.steps)) <|aa (zL ((G+j.steps),7)) λk=>aa (pL B) λF=>ae (ai (F+j.cg)) <|aa (pL (⟨k.2,0,k.1⟩:aP)) λM=>ae (ai ((F+j.cg)-M)) <|aa (gY (⟨k.2,((F+j.cg)-M),k.1⟩:aP)) λO=>ab (!O) (some ((⟨0,0,0⟩:aP),3)) (some ((⟨k.2,((F+j.cg)-M),k.1⟩:aP),0))))
def zA:(Part×(Int×aP))->Option (aP×Int):=λ(F,M,G)=>aa (aa (aa (tH F) λj=>ab (!j) (some (false,(0,0))) (aa (ou F.shift) λk=>aa (tL (M,k.1)) λB=>aa (ab (!(aA k.2 0)) (some true) (some (!(aA B.2.2 0)))) λ(N:Bool)=>ab N (some (false,(0,0))) (some (true,(B.2.1.steps,B.2.1.cg))))) λ(j:(Bool×(Int×Int)))=>ab (!j.1) (some (true,(j.2.1,j.2.2))) (aa (gY G) λk=>some ((!k),(j.2.1,j.2.2)))) λ(j:(Bool×(Int×Int)))=>ab j.1 (some ((⟨0,0,0⟩:aP),1)) (aa (wj (G,(⟨j.2.1,j.2.2⟩:Interval))) λk=>some (k.1,k.2))
def wH:(Reader×(aM×aq))->Option Written:=λ(k,B,j)=>aa (zA (k.part,(B.key,j.aR))) λF=>some (⟨j.id,j.bc,j.bF,j.start,j.length,F.1⟩:Written)
def zw:(Part×Int)->Option (Int×Int):=λ(j,G)=>aa (aa (tH j) λk=>ab (!k) (some (false,0)) (aa (ou j.shift) λB=>aa (tL (G,B.1)) λF=>aa (ab (!(aA B.2 0)) (some true) (some (!(aA F.2.2 0)))) λ(M:Bool)=>ab M (some (false,0)) (some (true,F.1)))) λ(k:(Bool×Int))=>ab (!k.1) (some (0,1)) (some (k.2,0))
def wG:(Reader×(aM×(List Written)))->Option aL:=λ(k,j,B)=>aa (zw (k.part,j.key)) λF=>some (⟨j.id,F.1,j.length,B⟩:aL)
def pP:Rat->Option Int:=λ(j)=>aa (aa (l5 j) λk=>ab (!k) (some true) (ab (ah j.n 0) (some true) (ae (!(aA j.d 0)) <|some (!(aA (Int.tmod 1680 j.d) 0))))) λ(k:Bool)=>ab k (some (-1)) (ae (!(aA j.d 0)) <|ae (ai (Int.tdiv 1680 j.d)) <|ae (ai (j.n*(Int.tdiv 1680 j.d))) <|some (j.n*(Int.tdiv 1680 j.d)))
def wF:Written->Option Int:=λ(j)=>aa (lZ j.aR) λk=>some k.1
def zm:Int->Option Bool:=λ(j)=>some (!(aA j j))
def pJ:(Int×Int)->Option Int:=λ(j,k)=>aa (zm j) λF=>aa (zm k) λB=>ab F (ab B (some 0) (some (-1))) (ab B (some 1) (ab (ah j k) (some (-1)) (ab (ah k j) (some 1) (some 0))))
def rm:(List Int)->Option Int:=λ(k)=>aQ (ay (λj:Int=>ab (ah j (k.length:Int)) (aa (au k j) λB=>ab (!(aA B 0)) (some (.inr (.inr B))) (ae (ai (j+1)) <|some (.inl (j+1)))) (some (.inr (.inl ())))) 0) λ(j:Unit)=>some 0
def wE:(Written×Written)->Option Int:=λ(j,k)=>aa (pP j.start) λF=>aa (pP k.start) λG=>aa (pJ (F,G)) λM=>aa (pJ (j.bc,k.bc)) λN=>aa (wF j) λO=>aa (wF k) λU=>aa (pJ (O,U)) λY=>aa (pJ (j.id,k.id)) λZ=>aa (rm (M::(N::(Y::(Z::([]:List Int)))))) λB=>some B
def AH:((List Written)×Unit)->Option Bool:=λ(k,M)=>aQ (ae (ai ((k.length:Int)-1)) <|ay (λj:Int=>ab (ah 0 j) (aa (au k j) λB=>ae (ai (j-1)) <|aa (au k (j-1)) λF=>aa (wE (B,F)) λG=>ab (ah G 0) (some (.inr (.inr false))) (ae (ai (j-1)) <|some (.inl (j-1)))) (some (.inr (.inl ())))) ((k.length:Int)-1)) λ(j:Unit)=>some true
def wI:(Int×(Int×Int))->Option Bool:=λ(j,k,B)=>aa (ab (leI k j) (some (leI j B)) (some false)) λ(F:Bool)=>some F
def wD:(Written×Rat)->Option Bool:=λ(j,M)=>aa (aa (wI (j.id,(1,1000000))) λF=>ab F (aa (wI (j.bc,(0,9))) λk=>ab k (aa (wI (j.bF,(0,20))) λB=>some B) (some false)) (some false)) λ(F:Bool)=>aa (pP j.start) λk=>aa (pP j.length) λB=>aa (ab F (aa (gY j.aR) λG=>ab G (ab (leI 0 k) (ab (ah 0 B) (ae (ai (k+B)) <|aa (pP M) λN=>some (leI (k+B) N)) (some false)) (some false)) (some false)) (some false)) λ(G:Bool)=>some G
def zy:(Part×(Int×aP))->Option (aP×Int):=λ(F,M,G)=>aa (aa (aa (tH F) λj=>ab (!j) (some (false,(0,0))) (aa (ou F.shift) λk=>aa (tL (M,k.1)) λB=>aa (ab (!(aA k.2 0)) (some true) (some (!(aA B.2.2 0)))) λ(N:Bool)=>ab N (some (false,(0,0))) (some (true,(B.2.1.steps,B.2.1.cg))))) λ(j:(Bool×(Int×Int)))=>ab (!j.1) (some (true,(j.2.1,j.2.2))) (aa (gY G) λk=>some ((!k),(j.2.1,j.2.2)))) λ(j:(Bool×(Int×Int)))=>ab j.1 (some ((⟨0,0,0⟩:aP),1)) (aa (ou (⟨j.2.1,j.2.2⟩:Interval)) λk=>ab (!(aA k.2 0)) (some ((⟨0,0,0⟩:aP),k.2)) (aa (wj (G,k.1)) λB=>some (B.1,B.2)))
def E2:(Rat×Rat)->Option Fraction:=λ(j,k)=>ae (ai (j.n*k.d)) <|ae (ai (k.n*j.d)) <|ae (ai ((j.n*k.d)+(k.n*j.d))) <|ae (ai (j.d*k.d)) <|some (⟨((j.n*k.d)+(k.n*j.d)),(j.d*k.d)⟩:Fraction)
def Af:Fraction->Option (Rat×Int):=λ(B)=>aa (tV B) λj=>aa (aa (ow j.n) λk=>ab (ah 1000000000 k) (some true) (some (ah 1000000 j.d))) λ(k:Bool)=>ab k (some ((⟨0,0⟩:Rat),3)) (some ((⟨j.n,j.d⟩:Rat),0))
def E3:(Rat×(Rat×(Rat×Rat)))->Option (Rat×Int):=λ(G,M,j)=>aa (aa (l5 G) λk=>ab (!k) (some true) (aa (l5 M) λB=>some (!B))) λ(k:Bool)=>ab k (some ((⟨0,0⟩:Rat),1)) (aa (E2 (j.1,j.2)) λB=>aa (Af B) λF=>some (F.1,F.2))
def fg:(Rat×Rat)->Option (Rat×Int):=λ(j,k)=>aa (E3 (j,(k,(j,k)))) λB=>some (B.1,B.2)
def LA:(List (Int×Bool))->Option (List (Int×Bool)):=λ(j)=>some j
def Lz:(aL×Int)->Option Int:=λ(k,j)=>some j
def vZ:(aL×Int)->Option aL:=λ(B,N)=>aa (Lz (B,N)) λM=>aa (oi (List.isEmpty B.notes) (some ([]:List Written)) (ae (decide ((List.append ([]:List Written) B.notes).length*80<=140737488355328/\(List.append ([]:List Written) B.notes).length<=9223372036854775807)) <|some (List.append ([]:List Written) B.notes))) λ(G:(List Written))=>aa (aa (aQ (ay (λk:Int=>ab (ah k (G.length:Int)) (ae ((leI 0 k)&&(ah k (G.length:Int))) <|aa (au G k) λj=>aa (ab (aA j.bc 0) (some true) (some (aA j.bc M))) λ(F:Bool)=>ab (!F) (some (.inr (.inr k))) (ae (ai (k+1)) <|some (.inl (k+1)))) (some (.inr (.inl ())))) 0) λ(k:Unit)=>some (-1)) λ(k:Int)=>ab (aA k (-1)) (some G) (aa (ae (ai (k+1)) <|ay (λj:(Int×(Int×(List Written)))=>ab (ah j.2.1 (j.2.2.length:Int)) (aa (ae ((leI 0 j.2.1)&&(ah j.2.1 (j.2.2.length:Int))) <|aa (au j.2.2 j.2.1) λF=>aa (ab (aA F.bc 0) (some true) (some (aA F.bc M))) λ(O:Bool)=>ab (!(!O)) (ae ((leI 0 j.1)&&(ah j.1 (j.2.2.length:Int))) <|aa (au j.2.2 j.1) λU=>ae (ai (j.1+1)) <|some ((j.1+1),(List.set j.2.2 (Int.toNat j.1) F))) (some (j.1,j.2.2))) λ(F:(Int×(List Written)))=>ae (ai (j.2.1+1)) <|some (.inl (F.1,((j.2.1+1),F.2)))) (some (.inr (j.1,j.2.2)))) (k,((k+1),G))) λ(j:(Int×(List Written)))=>ae ((leI 0 j.1)&&(leI j.1 (j.2.length:Int))) <|ae ((leI 0 j.1)&&(leI j.1 ((List.append (List.take (Int.toNat j.1) j.2) (List.replicate (Int.toNat ((j.2.length:Int)-j.1)) ((⟨0,0,0,(⟨0,0⟩:Rat),(⟨0,0⟩:Rat),(⟨0,0,0⟩:aP)⟩:Written):Written))).length:Int))) <|some (List.take (Int.toNat j.1) (List.append (List.take (Int.toNat j.1) j.2) (List.replicate (Int.toNat ((j.2.length:Int)-j.1)) ((⟨0,0,0,(⟨0,0⟩:Rat),(⟨0,0⟩:Rat),(⟨0,0,0⟩:aP)⟩:Written):Written)))))) λ(k:(List Written))=>some (⟨B.az,B.key,B.length,k⟩:aL)
def EL:((List aL)×Int)->Option (List aL):=λ(B,F)=>aa (ay (λj:(Int×(List aL))=>ab (ah j.1 (B.length:Int)) (aa (au B j.1) λG=>aa (vZ (G,F)) λk=>ae (decide ((List.append j.2 (k::([]:List aL))).length*56<=140737488355328/\(List.append j.2 (k::([]:List aL))).length<=9223372036854775807)) <|ae (ai (j.1+1)) <|some (.inl ((j.1+1),(List.append j.2 (k::([]:List aL)))))) (some (.inr j.2))) (0,([]:List aL))) λ(j:(List aL))=>some j
def EO:(View×Int)->Option View:=λ(j,k)=>aa (EL (j.bh,k)) λB=>some (⟨j.part,B⟩:View)
def vX:(View×Int)->Option (View×Int):=λ(k,j)=>aa (aa (rn k) λB=>ab (!B) (some true) (ab (ah j 0) (some true) (some (ah 9 j)))) λ(B:Bool)=>ab B (some ((⟨0,([]:List aL)⟩:View),1)) (aa (EO (k,j)) λF=>some (F,0))
def EI:View->Option Bool:=λ(j)=>aa (rn j) λk=>some (!k)
def Fo:((List View)×Unit)->Option Int:=λ(k,G)=>aQ (ay (λj:Int=>ab (ah j (k.length:Int)) (aa (au k j) λB=>aa (EI B) λF=>ab F (some (.inr (.inr j))) (ae (ai (j+1)) <|some (.inl (j+1)))) (some (.inr (.inl ())))) 0) λ(j:Unit)=>some (-1)
def AA:((List View)×Unit)->Option Bool:=λ(j,k)=>aa (Fo (j,k)) λB=>some (leI 0 B)
def zr:(aL×aL)->Option Bool:=λ(j,k)=>aa (ab (aA j.az k.az) (ab (aA j.key k.key) (some (Cc j.length k.length)) (some false)) (some false)) λ(B:Bool)=>some B
def Ff:((List aL)×((List aL)×Unit))->Option Bool:=λ(k,B,M)=>ab (!(aA (k.length:Int) (B.length:Int))) (some false) (aQ (ay (λj:Int=>ab (ah j (k.length:Int)) (aa (au k j) λF=>aa (au B j) λG=>aa (zr (F,G)) λN=>ab (!N) (some (.inr (.inr false))) (ae (ai (j+1)) <|some (.inl (j+1)))) (some (.inr (.inl ())))) 0) λ(j:Unit)=>some true)
def zq:(View×View)->Option Bool:=λ(k,B)=>aa (ab (aA k.part B.part) (aa (Ff (k.bh,(B.bh,()))) λj=>some j) (some false)) λ(j:Bool)=>some j
def EJ:(View×(List View))->Option Bool:=λ(j,k)=>aa (au k 0) λB=>aa (zq (B,j)) λF=>some (!F)
def Fp:((List View)×(List View))->Option Int:=λ(k,B)=>aQ (ay (λj:Int=>ab (ah j (k.length:Int)) (aa (au k j) λF=>aa (EJ (F,B)) λG=>ab G (some (.inr (.inr j))) (ae (ai (j+1)) <|some (.inl (j+1)))) (some (.inr (.inl ())))) 0) λ(j:Unit)=>some (-1)
def Fe:((List View)×(List View))->Option Bool:=λ(j,k)=>aa (Fp (j,k)) λB=>some (leI 0 B)
def ET:(List (Int×Written))->Option (List (Int×Written)):=λ(j)=>some j
def l4:((List aw)×(List aw))->Option Bool:=λ(k,B)=>ab (!(aA (k.length:Int) (B.length:Int))) (some false) (aQ (ay (λj:Int=>ab (ah j (k.length:Int)) (aa (au k j) λF=>aa (au B j) λG=>ab (!(H5 F G)) (some (.inr (.inr false))) (ae (ai (j+1)) <|some (.inl (j+1)))) (some (.inr (.inl ())))) 0) λ(j:Unit)=>some true)
def zY:Form->Option Bool:=λ(j)=>aa (ab (leI j.bars 60) (ab (leI (j.aX.length:Int) 110) (ab (leI (j.bz.length:Int) 60) (some (leI (j.ba.length:Int) 110)) (some false)) (some false)) (some false)) λ(k:Bool)=>some k
def Ad:(dB×Room)->Option Bool:=λ(j,B)=>aa (ab (ah 12 (j.score.bars.length:Int)) (some true) (ab (ah 8 (j.score.parts.length:Int)) (some true) (ab (ah 30 (j.score.notes.length:Int)) (some true) (aa (zY B.form) λF=>ab (!F) (some true) (some (ah 40 (B.bA.length:Int))))))) λ(F:Bool)=>ab F (some false) (aQ (ay (λk:Int=>ab (ah k (j.score.parts.length:Int)) (aa (au j.score.parts k) λG=>ab (ah 6 G.ed) (some (.inr (.inr false))) (ae (ai (k+1)) <|some (.inl (k+1)))) (some (.inr (.inl ())))) 0) λ(k:Unit)=>some true)
def zQ:(Int×Int)->Option Int:=λ(k,B)=>aa (ay (λj:(Int×Int)=>ab (!(aA j.2 0)) (ae (!(aA j.2 0)) <|some (.inl (j.2,(Int.tmod j.1 j.2)))) (some (.inr j.1))) (k,B)) λ(j:Int)=>some j
def pM:Rat->Option Int:=λ(j)=>aa (ab (ah j.d 1) (some true) (ae (!(aA j.d 0)) <|ab (!(aA (Int.tmod 1680 j.d) 0)) (some true) (ab (ah j.n 0) (some true) (ab (ah 1000000000 j.n) (some true) (aa (zQ (j.n,j.d)) λk=>some (!(aA k 1))))))) λ(k:Bool)=>ab k (some (-1)) (ae (!(aA j.d 0)) <|ae (ai (Int.tdiv 1680 j.d)) <|ae (ai (j.n*(Int.tdiv 1680 j.d))) <|some (j.n*(Int.tdiv 1680 j.d)))
def wk:(List aM)->Option Bool:=λ(k)=>aa (ab (ah (k.length:Int) 1) (some true) (some (ah 4000 (k.length:Int)))) λ(U:Bool)=>ab U (some false) (aQ (ay (λj:Int=>ab (ah j (k.length:Int)) (aQ (aa (au k j) λN=>aa (pM N.length) λO=>aa (aa (au k j) λF=>ab (ah F.id 1) (some true) (aa (au k j) λB=>ab (ah 1000000 B.id) (some true) (ab (ah O 1) (some true) (ab (ah 40320 O) (some true) (aa (au k j) λG=>ab (ah G.key (-7)) (some true) (aa (au k j) λM=>some (ah 7 M.key))))))) λ(F:Bool)=>ab F (some (.inr (.inr (.inr false)))) (ay (λB:Int=>ab (ah B j) (aa (au k B) λG=>aa (au k j) λM=>ab (aA G.id M.id) (some (.inr (.inr (.inr (.inr false))))) (ae (ai (B+1)) <|some (.inl (B+1)))) (some (.inr (.inl ())))) 0)) λ(N:Unit)=>ae (ai (j+1)) <|some (.inl (j+1))) (some (.inr (.inl ())))) 0) λ(j:Unit)=>some true)
def k9:(Int×(Int×Int))->Option Bool:=λ(j,k,B)=>aa (ab (leI k j) (some (leI j B)) (some false)) λ(F:Bool)=>some F
def zP:(Int×(Int×Int))->Option Bool:=λ(j,k,B)=>aa (ab (leI k j) (some (leI j B)) (some false)) λ(F:Bool)=>some F
def EZ:Interval->Option Bool:=λ(k)=>aa (aa (zP (k.steps,((-70),70))) λj=>ab j (aa (zP (k.cg,((-120),120))) λB=>some B) (some false)) λ(j:Bool)=>some j
def zO:Interval->Option (Int×Int):=λ(j)=>aa (EZ j) λk=>ab (!k) (some (0,1)) (ae (ai (7*j.cg)) <|ae (ai (12*j.steps)) <|ae (ai ((7*j.cg)-(12*j.steps))) <|some (((7*j.cg)-(12*j.steps)),0))
def zW:Interval->Option Bool:=λ(j)=>aa (zO j) λB=>aa (ab (aA B.2 0) (aa (k9 (j.steps,((-21),21))) λk=>ab k (aa (k9 (j.cg,((-36),36))) λF=>ab F (aa (k9 (B.1,((-12),12))) λG=>some G) (some false)) (some false)) (some false)) λ(k:Bool)=>some k
def rz:(Int×(Int×Int))->Option Bool:=λ(j,k,B)=>aa (ab (leI k j) (some (leI j B)) (some false)) λ(F:Bool)=>some F
def tO:aP->Option Bool:=λ(j)=>aa (rz (j.step,(0,6))) λB=>aa (rz (j.alter,((-4),4))) λF=>aa (ab B (ab F (aa (rz (j.aZ,((-8),20))) λk=>some k) (some false)) (some false)) λ(k:Bool)=>some k
def EY:Int->Option Int:=λ(j)=>ae (ai (2*j)) <|aa (ab (ah 2 j) (ae (ai ((2*j)-1)) <|some ((2*j)-1)) (some (2*j))) λ(k:Int)=>some k
def l3:aP->Option Int:=λ(j)=>ae (ai (12*j.aZ)) <|aa (EY j.step) λk=>ae (ai ((12*j.aZ)+k)) <|ae (ai (((12*j.aZ)+k)+j.alter)) <|some (((12*j.aZ)+k)+j.alter)
def zU:Part->Option Bool:=λ(j)=>aa (k9 (j.id,(1,1000000))) λG=>aa (k9 (j.nm,(0,99))) λM=>aa (k9 (j.of,(0,1000000))) λN=>aa (k9 (j.aZ,((-2),2))) λO=>aa (k9 (j.ed,(1,40))) λU=>aa (zW j.shift) λY=>aa (tO j.low) λZ=>aa (tO j.high) λad=>aa (ab (!G) (some true) (ab (!M) (some true) (ab (!N) (some true) (ab (!O) (some true) (ab (!U) (some true) (ab (!Y) (some true) (ab (!Z) (some true) (some (!ad))))))))) λ(F:Bool)=>ab F (some false) (aa (ab (!(aA j.of j.id)) (ab (!(aA j.of 0)) (aa (l3 j.low) λk=>aa (l3 j.high) λB=>some (leI k B)) (ab (aA j.aZ 0) (aa (l3 j.low) λk=>aa (l3 j.high) λB=>some (leI k B)) (some false))) (some false)) λ(k:Bool)=>some k)
def tR:((List Part)×Int)->Option Int:=λ(k,B)=>aQ (ay (λj:Int=>ab (ah j (k.length:Int)) (aa (au k j) λF=>ab (aA F.id B) (some (.inr (.inr j))) (ae (ai (j+1)) <|some (.inl (j+1)))) (some (.inr (.inl ())))) 0) λ(j:Unit)=>some (-1)
def zV:(List Part)->Option Bool:=λ(j)=>aa (ab (ah (j.length:Int) 1) (some true) (some (ah 60 (j.length:Int)))) λ(N:Bool)=>ab N (some false) (aQ (ay (λk:Int=>ab (ah k (j.length:Int)) (aQ (aa (au j k) λG=>aa (zU G) λY=>aa (ab (!Y) (some true) (aa (au j k) λB=>aa (tR (j,B.id)) λF=>some (!(aA F k)))) λ(B:Bool)=>ab B (some (.inr (.inr (.inr false)))) (aa (au j k) λF=>ab (aA F.of 0) (some (.inl ())) (aa (au j k) λO=>aa (tR (j,O.of)) λM=>ab (ah M 0) (some (.inr (.inr (.inr false)))) (aa (au j M) λU=>ab (!(aA U.of 0)) (some (.inr (.inr (.inr false)))) (some (.inl ())))))) λ(G:Unit)=>ae (ai (k+1)) <|some (.inl (k+1))) (some (.inr (.inl ())))) 0) λ(k:Unit)=>some true)
def wm:((List aM)×Int)->Option Int:=λ(k,B)=>aQ (ay (λj:Int=>ab (ah j (k.length:Int)) (aa (au k j) λF=>ab (aA F.id B) (some (.inr (.inr j))) (ae (ai (j+1)) <|some (.inl (j+1)))) (some (.inr (.inl ())))) 0) λ(j:Unit)=>some (-1)
def zN:aP->Option Bool:=λ(j)=>aa (tO j) λB=>aa (ab B (aa (rz (j.alter,((-2),2))) λk=>ab k (aa (rz (j.aZ,(0,9))) λF=>some F) (some false)) (some false)) λ(k:Bool)=>some k
def tP:(Int×(Int×Int))->Option Bool:=λ(j,k,B)=>aa (ab (leI k j) (some (leI j B)) (some false)) λ(F:Bool)=>some F
def zS:((List aM)×aq)->Option Bool:=λ(G,j)=>aa (wm (G,j.az)) λM=>aa (zN j.aR) λU=>aa (ab (ah M 0) (some true) (ab (!U) (some true) (aa (tP (j.id,(1,1000000))) λN=>ab (!N) (some true) (aa (tP (j.part,(1,1000000))) λk=>ab (!k) (some true) (aa (tP (j.bc,(0,9))) λB=>ab (!B) (some true) (aa (tP (j.bF,(0,20))) λF=>some (!F))))))) λ(N:Bool)=>ab N (some false) (aa (pM j.start) λk=>aa (pM j.length) λB=>aa (ab (leI 0 k) (ab (ah 0 B) (ae (ai (k+B)) <|aa (au G M) λF=>aa (pM F.length) λO=>some (leI (k+B) O)) (some false)) (some false)) λ(F:Bool)=>some F)
def zT:((List aM)×(List aq))->Option Bool:=λ(F,k)=>aa (wk F) λU=>aa (ab (!U) (some true) (some (ah 20000 (k.length:Int)))) λ(M:Bool)=>ab M (some false) (aQ (ay (λj:Int=>ab (ah j (k.length:Int)) (aQ (aa (au k j) λG=>aa (zS (F,G)) λY=>ab (!Y) (some (.inr (.inr (.inr false)))) (ay (λB:Int=>ab (ah B j) (aa (au k B) λN=>aa (au k j) λO=>ab (aA N.id O.id) (some (.inr (.inr (.inr (.inr false))))) (ae (ai (B+1)) <|some (.inl (B+1)))) (some (.inr (.inl ())))) 0)) λ(G:Unit)=>ae (ai (j+1)) <|some (.inl (j+1))) (some (.inr (.inl ())))) 0) λ(j:Unit)=>some true)
def tQ:((List Part)×aq)->Option Int:=λ(k,B)=>aa (tR (k,B.part)) λj=>ab (ah j 0) (some (-1)) (aa (au k j) λF=>ab (!(aA F.of 0)) (some (-1)) (some j))
def E0:(Part×aP)->Option Bool:=λ(j,k)=>aa (l3 k) λB=>aa (l3 j.low) λF=>aa (l3 j.high) λG=>aa (k9 (B,(F,G))) λM=>some M
def wq:((List Part)×(List aq))->Option Int:=λ(F,k)=>aQ (ay (λB:Int=>ab (ah B (k.length:Int)) (aa (au k B) λj=>aa (tQ (F,j)) λG=>ab (ah G 0) (some (.inr (.inr 22))) (ae (ai (B+1)) <|some (.inl (B+1)))) (some (.inr (.inl ())))) 0) λ(B:Unit)=>aQ (ay (λj:Int=>ab (ah j (k.length:Int)) (aa (au k j) λG=>aa (tQ (F,G)) λM=>aa (au F M) λN=>aa (au k j) λO=>aa (E0 (N,O.aR)) λU=>ab (!U) (some (.inr (.inr 20))) (ae (ai (j+1)) <|some (.inl (j+1)))) (some (.inr (.inl ())))) 0) λ(j:Unit)=>some 0
def wo:((List aM)×aq)->Option (List Int):=λ(k,j)=>aa (wm (k,j.az)) λB=>aa (pM j.start) λF=>aa (l3 j.aR) λG=>some (B::(j.part::(F::(j.bc::(G::(j.id::([]:List Int)))))))
def zR:((List aM)×(aq×aq))->Option Bool:=λ(B,G,M)=>aa (wo (B,G)) λk=>aa (wo (B,M)) λF=>aQ (ay (λj:Int=>ab (ah j (k.length:Int)) (aa (au k j) λN=>aa (au F j) λO=>ab (!(aA N O)) (aa (au k j) λU=>aa (au F j) λY=>some (.inr (.inr (ah U Y)))) (ae (ai (j+1)) <|some (.inl (j+1)))) (some (.inr (.inl ())))) 0) λ(j:Unit)=>some false
def zX:Score->Option Bool:=λ(j)=>aa (wk j.bars) λN=>aa (zV j.parts) λO=>aa (aa (k9 (j.version,(1,1000000))) λB=>ab (!B) (some true) (ab (!N) (some true) (some (!O)))) λ(B:Bool)=>ab B (some false) (aa (zT (j.bars,j.notes)) λU=>ab (!U) (some false) (aa (wq (j.parts,j.notes)) λF=>ab (!(aA F 0)) (some false) (aQ (ay (λk:Int=>ab (ah k (j.notes.length:Int)) (ae (ai (k-1)) <|aa (au j.notes (k-1)) λG=>aa (au j.notes k) λM=>aa (zR (j.bars,(G,M))) λY=>ab (!Y) (some (.inr (.inr false))) (ae (ai (k+1)) <|some (.inl (k+1)))) (some (.inr (.inl ())))) 1) λ(k:Unit)=>some true)))
def Aa:((List Repeat)×Int)->Option Bool:=λ(k,G)=>ab (ah 100 (k.length:Int)) (some false) (aQ (ay (λj:(Int×Int)=>ab (ah j.2 (k.length:Int)) (aa (aa (au k j.2) λB=>ab (ah B.from_ j.1) (some true) (aa (au k j.2) λF=>aa (au k j.2) λM=>ab (leI M.aO F.from_) (some true) (aa (au k j.2) λN=>ab (ah G N.aO) (some true) (aa (au k j.2) λO=>ab (ah O.times 1) (some true) (aa (au k j.2) λU=>some (ah 9 U.times)))))) λ(B:Bool)=>ab B (some (.inr (.inr false))) (aa (au k j.2) λF=>ae (ai (j.2+1)) <|some (.inl (F.aO,(j.2+1))))) (some (.inr (.inl ())))) (0,0)) λ(j:Unit)=>some true)
def z7:((List Repeat)×(Int×Int))->Option Bool:=λ(k,F,G)=>aQ (ay (λj:Int=>ab (ah j (k.length:Int)) (aa (aa (au k j) λB=>ab (leI B.from_ F) (aa (au k j) λM=>some (leI G M.aO)) (some false)) λ(B:Bool)=>ab B (some (.inr (.inr true))) (ae (ai (j+1)) <|some (.inl (j+1)))) (some (.inr (.inl ())))) 0) λ(j:Unit)=>some false
def z6:Form->Option Bool:=λ(B)=>ab (ah 100 (B.bz.length:Int)) (some false) (aQ (ay (λk:(Int×Int)=>ab (ah k.2 (B.bz.length:Int)) (aa (au B.bz k.2) λj=>aa (ab (ah j.from_ k.1) (some true) (ab (leI j.aO j.from_) (some true) (aa (z7 (B.aX,(j.from_,j.aO))) λF=>ab (!F) (some true) (ab (ah j.pass 1) (some true) (some (ah 9 j.pass)))))) λ(F:Bool)=>ab F (some (.inr (.inr false))) (ae (ai (k.2+1)) <|some (.inl (j.aO,(k.2+1))))) (some (.inr (.inl ())))) (0,0)) λ(k:Unit)=>some true)
def tU:((List Repeat)×Int)->Option Bool:=λ(k,F)=>aQ (ay (λj:Int=>ab (ah j (k.length:Int)) (aa (aa (au k j) λB=>ab (ah B.from_ F) (aa (au k j) λG=>some (ah F G.aO)) (some false)) λ(B:Bool)=>ab B (some (.inr (.inr true))) (ae (ai (j+1)) <|some (.inl (j+1)))) (some (.inr (.inl ())))) 0) λ(j:Unit)=>some false
def z8:Form->Option Bool:=λ(j)=>ab (Cb j.jump (⟨0,0,0⟩:Jump)) (some true) (aa (ab (ah j.jump.at_ 1) (some true) (ab (ah j.bars j.jump.at_) (some true) (ab (ah j.jump.to 0) (some true) (ab (leI j.jump.at_ j.jump.to) (some true) (ab (leI j.jump.cW j.jump.to) (some true) (some (ah j.bars j.jump.cW))))))) λ(B:Bool)=>ab B (some false) (aa (aa (tU (j.aX,j.jump.at_)) λk=>ab (!k) (aa (tU (j.aX,j.jump.to)) λF=>ab (!F) (aa (tU (j.aX,j.jump.cW)) λG=>some (!G)) (some false)) (some false)) λ(k:Bool)=>some k))
def wu:(Form×Cut)->Option Bool:=λ(k,j)=>aa (ab (leI 0 j.from_) (ab (ah j.from_ j.aO) (ab (leI j.aO k.bars) (ab (leI 0 j.pass) (some (leI j.pass 20)) (some false)) (some false)) (some false)) (some false)) λ(B:Bool)=>some B
def wv:((List Cut)×Cut)->Option Int:=λ(k,B)=>aQ (ay (λj:Int=>ab (ah j (k.length:Int)) (aa (au k j) λF=>ab (HY F B) (some (.inr (.inr j))) (ae (ai (j+1)) <|some (.inl (j+1)))) (some (.inr (.inl ())))) 0) λ(j:Unit)=>some (-1)
def tT:(Form×Int)->Option Int:=λ(k,B)=>aQ (ay (λj:Int=>ab (ah j (k.aX.length:Int)) (aa (au k.aX j) λF=>ab (aA F.from_ B) (some (.inr (.inr j))) (ae (ai (j+1)) <|some (.inl (j+1)))) (some (.inr (.inl ())))) 0) λ(j:Unit)=>some (-1)
def ov:(Form×(Int×Int))->Option Bool:=λ(B,F,G)=>aQ (ay (λj:Int=>ab (ah j (B.bz.length:Int)) (aa (au B.bz j) λk=>aa (ab (leI k.from_ F) (ab (ah F k.aO) (some (!(aA k.pass G))) (some false)) (some false)) λ(M:Bool)=>ab M (some (.inr (.inr false))) (ae (ai (j+1)) <|some (.inl (j+1)))) (some (.inr (.inl ())))) 0) λ(j:Unit)=>some true
def Ab:Form->Option (List Int):=λ(M)=>ab (aA M.jump.at_ 0) (aa (ay (λk:(Int×(List Int))=>ab (ah k.1 M.bars) (aa (tT (M,k.1)) λF=>ab (ah F 0) (ae (decide ((List.append k.2 (k.1::([]:List Int))).length*8<=140737488355328/\(List.append k.2 (k.1::([]:List Int))).length<=9223372036854775807)) <|ae (ai (k.1+1)) <|some (.inl ((k.1+1),(List.append k.2 (k.1::([]:List Int)))))) (aa (au M.aX F) λN=>aa (ay (λB:(Int×(List Int))=>ab (leI B.1 N.times) (aa (ay (λj:(Int×(List Int))=>ab (ah j.1 N.aO) (aa (aa (ov (M,(j.1,B.1))) λG=>ab G (ae (decide ((List.append j.2 (j.1::([]:List Int))).length*8<=140737488355328/\(List.append j.2 (j.1::([]:List Int))).length<=9223372036854775807)) <|some (List.append j.2 (j.1::([]:List Int)))) (some j.2)) λ(G:(List Int))=>ae (ai (j.1+1)) <|some (.inl ((j.1+1),G))) (some (.inr j.2))) (N.from_,B.2)) λ(j:(List Int))=>ae (ai (B.1+1)) <|some (.inl ((B.1+1),j))) (some (.inr B.2))) (1,k.2)) λ(B:(List Int))=>some (.inl (N.aO,B)))) (some (.inr k.2))) (0,([]:List Int))) λ(k:(List Int))=>some k) (aa (ay (λk:(Int×(List Int))=>ab (ah k.1 M.jump.at_) (aa (tT (M,k.1)) λF=>ab (ah F 0) (ae (decide ((List.append k.2 (k.1::([]:List Int))).length*8<=140737488355328/\(List.append k.2 (k.1::([]:List Int))).length<=9223372036854775807)) <|ae (ai (k.1+1)) <|some (.inl ((k.1+1),(List.append k.2 (k.1::([]:List Int)))))) (aa (au M.aX F) λN=>aa (ay (λB:(Int×(List Int))=>ab (leI B.1 N.times) (aa (ay (λj:(Int×(List Int))=>ab (ah j.1 N.aO) (aa (aa (ov (M,(j.1,B.1))) λG=>ab G (ae (decide ((List.append j.2 (j.1::([]:List Int))).length*8<=140737488355328/\(List.append j.2 (j.1::([]:List Int))).length<=9223372036854775807)) <|some (List.append j.2 (j.1::([]:List Int)))) (some j.2)) λ(G:(List Int))=>ae (ai (j.1+1)) <|some (.inl ((j.1+1),G))) (some (.inr j.2))) (N.from_,B.2)) λ(j:(List Int))=>ae (ai (B.1+1)) <|some (.inl ((B.1+1),j))) (some (.inr B.2))) (1,k.2)) λ(B:(List Int))=>some (.inl (N.aO,B)))) (some (.inr k.2))) (0,([]:List Int))) λ(k:(List Int))=>aa (ay (λF:(Int×(List Int))=>ab (ah F.1 M.jump.cW) (aa (tT (M,F.1)) λN=>ab (ah N 0) (ae (decide ((List.append F.2 (F.1::([]:List Int))).length*8<=140737488355328/\(List.append F.2 (F.1::([]:List Int))).length<=9223372036854775807)) <|ae (ai (F.1+1)) <|some (.inl ((F.1+1),(List.append F.2 (F.1::([]:List Int)))))) (aa (au M.aX N) λB=>aa (ay (λj:(Int×(List Int))=>ab (leI j.1 B.times) (aa (ay (λG:(Int×(List Int))=>ab (ah G.1 B.aO) (aa (aa (ov (M,(G.1,j.1))) λO=>ab O (ae (decide ((List.append G.2 (G.1::([]:List Int))).length*8<=140737488355328/\(List.append G.2 (G.1::([]:List Int))).length<=9223372036854775807)) <|some (List.append G.2 (G.1::([]:List Int)))) (some G.2)) λ(O:(List Int))=>ae (ai (G.1+1)) <|some (.inl ((G.1+1),O))) (some (.inr G.2))) (B.from_,j.2)) λ(G:(List Int))=>ae (ai (j.1+1)) <|some (.inl ((j.1+1),G))) (some (.inr j.2))) (B.times,F.2)) λ(j:(List Int))=>some (.inl (B.aO,j)))) (some (.inr F.2))) (M.jump.to,([]:List Int))) λ(F:(List Int))=>ae (decide ((List.append k F).length*8<=140737488355328/\(List.append k F).length<=9223372036854775807)) <|some (List.append k F))
def zZ:Form->Option Bool:=λ(j)=>aa (ab (ah j.bars 1) (some true) (ab (ah 4000 j.bars) (some true) (aa (Aa (j.aX,j.bars)) λF=>ab (!F) (some true) (aa (z6 j) λk=>ab (!k) (some true) (aa (z8 j) λB=>ab (!B) (some true) (some (ah 100 (j.ba.length:Int)))))))) λ(F:Bool)=>ab F (some false) (aQ (ay (λk:Int=>ab (ah k (j.ba.length:Int)) (aa (aa (au j.ba k) λB=>aa (wu (j,B)) λN=>ab (!N) (some true) (ae ((leI 0 k)&&(leI k (j.ba.length:Int))) <|aa (au j.ba k) λG=>aa (wv ((List.take (Int.toNat k) j.ba),G)) λM=>some (leI 0 M))) λ(B:Bool)=>ab B (some (.inr (.inr false))) (ae (ai (k+1)) <|some (.inl (k+1)))) (some (.inr (.inl ())))) 0) λ(k:Unit)=>aa (Ab j) λB=>some (leI (B.length:Int) 20000))
def E1:(Int×(Int×Int))->Option Bool:=λ(j,k,B)=>aa (ab (leI k j) (some (leI j B)) (some false)) λ(F:Bool)=>some F
def Ac:(List Int)->Option Bool:=λ(k)=>aQ (ay (λj:Int=>ab (ah j (k.length:Int)) (aa (aa (au k j) λB=>aa (E1 (B,(1,20))) λM=>ab (!M) (some true) (ab (ah 0 j) (aa (au k j) λF=>ae (ai (j-1)) <|aa (au k (j-1)) λG=>some (leI F G)) (some false))) λ(B:Bool)=>ab B (some (.inr (.inr false))) (ae (ai (j+1)) <|some (.inl (j+1)))) (some (.inr (.inl ())))) 0) λ(j:Unit)=>some true
def Ae:(dB×Room)->Option Bool:=λ(k,j)=>aa (aa (zX k.score) λF=>ab (!F) (some true) (some (!(aA j.version k.score.version)))) λ(F:Bool)=>ab F (some false) (aa (aa (zZ j.form) λB=>ab B (ab (aA j.form.bars (k.score.bars.length:Int)) (aa (Ac j.bA) λG=>some G) (some false)) (some false)) λ(B:Bool)=>some B)
def tM:(dB×Room)->Option Bool:=λ(k,B)=>aa (aa (Ad (k,B)) λj=>ab j (aa (Ae (k,B)) λF=>some F) (some false)) λ(j:Bool)=>some j
def LC:(List aM)->Option (List aM):=λ(j)=>some j
def EV:Unit->Option Rat:=λ()=>some (⟨0,1⟩:Rat)
def EU:((List aM)×Int)->Option Rat:=λ(N,F)=>aa (LC N) λk=>aa (EV ()) λG=>aQ (ay (λj:(Int×(Int×Int))=>ab (ah j.1 (k.length:Int)) (aa (au k j.1) λB=>ab (aA j.1 F) (some (.inr (.inr (⟨j.2.1,j.2.2⟩:Rat)))) (aa (fg ((⟨j.2.1,j.2.2⟩:Rat),B.length)) λM=>ae (ai (j.1+1)) <|some (.inl ((j.1+1),(M.1.n,M.1.d))))) (some (.inr (.inl (j.2.1,j.2.2))))) (0,(G.n,G.d))) λ(j:(Int×Int))=>ab (aA (k.length:Int) F) (some (⟨j.1,j.2⟩:Rat)) (aa (EV ()) λB=>some B)
def zF:(List aM)->Option (Rat×Int):=λ(j)=>aa (tN j) λB=>ab (!B) (some ((⟨0,0⟩:Rat),1)) (aa (EU (j,(j.length:Int))) λk=>some (k,0))
def EW:(aq×(aq×(List (Int×Int))))->Option Int:=λ(j,k,B)=>aa (pK j.start) λF=>aa (pK k.start) λG=>aa (lZ j.aR) λM=>aa (lZ k.aR) λN=>ae (ai ((an B j.az 0)-(an B k.az 0))) <|ae (ai (j.part-k.part)) <|ae (ai (F.1-G.1)) <|ae (ai (j.bc-k.bc)) <|ae (ai (M.1-N.1)) <|ae (ai (j.id-k.id)) <|aa (rm (((an B j.az 0)-(an B k.az 0))::((j.part-k.part)::((F.1-G.1)::((j.bc-k.bc)::((M.1-N.1)::((j.id-k.id)::([]:List Int)))))))) λO=>some O
def wB:aP->Option Int:=λ(j)=>aa (lZ j) λk=>some k.1
def Ft:(aw×(aw×Unit))->Option Int:=λ(j,k,O)=>aa (pO (j.start,k.start)) λG=>aa (pO (j.length,k.length)) λM=>ae (ai (j.part-k.part)) <|aa (wB j.aR) λB=>aa (wB k.aR) λF=>ae (ai (B-F)) <|ae (ai (j.aR.step-k.aR.step)) <|aa (rm (G.1::((j.part-k.part)::((B-F)::((j.aR.step-k.aR.step)::(M.1::([]:List Int))))))) λN=>some N
def EK:(Written×Written)->Option Int:=λ(j,k)=>aa (pO (j.start,k.start)) λG=>aa (lZ j.aR) λB=>aa (lZ k.aR) λF=>ae (ai (j.bc-k.bc)) <|ae (ai (B.1-F.1)) <|aa (pJ (j.id,k.id)) λM=>aa (rm (G.1::((j.bc-k.bc)::((B.1-F.1)::(M::([]:List Int)))))) λN=>some N
end Go.Proofs.YthhlipkkjippfaaGreatDoor
namespace Go.Proofs.YthhlipkkjippfaaGreatDoor
open Go Go.ag Go.Sy
variable [mh]
set_option maxRecDepth 100000
def BX:=bk [tI,tI] [.st 0] kh [] Tryz.func21
def Pv:=bk [] [.st 13,.st 14] ES [BX] Tryz.func29
def Qz:=bk [.st 21] [.bool] Aj [] Tryz.func130
def Qy:=bk [.st 8,.box (.st 9)] [.bool] E5 [] Tryz.func222
def Rf:=bk [.list (.st 8),.aB 222 (.box (.st 9))] [tI] Fl [Qy] Tryz.func226
def QY:=bk [.list (.st 8),.aB 222 (.box (.st 9))] [.bool] Az [Rf] Tryz.func221
def Qw:=bk [.st 21] [.bool] Ai [QY] Tryz.func131
def QF:=bk [.st 8,.box tI] [.bool] E7 [] Tryz.func278
def Rg:=bk [.list (.st 8),.aB 278 (.box tI)] [tI] Fm [QF] Tryz.func226
def QZ:=bk [.list (.st 8),.aB 278 (.box tI)] [.bool] Fc [Rg] Tryz.func221
def QE:=bk [.st 21,tI] [.bool] tW [QZ] Tryz.func223
def QC:=bk [.st 21] [.bool] Al [QE] Tryz.func132
def QA:=bk [.st 21,.st 10] [.bool] Ak [] Tryz.func224
def Qv:=bk [.st 21] [.bool] Ah [QA] Tryz.func133
def HQ:=bk [.st 21] [.aB 135 (.box (.st 21))] E8 [] Tryz.func61
def HO:=bk [.st 21,tI,tI,.bool] [.aB 225 (.aJ (.box tI) (.aJ (.box tI) (.aJ (.box (.st 21)) (.box (.bool)))))] wx [] Tryz.func137
def QB:=bk [.st 9,.box tI,.box tI] [.bool] E6 [] Tryz.func280
def Q8:=bk [.list (.st 9),.aB 280 (.aJ (.box tI) (.box tI))] [tI] Fi [QB] Tryz.func306
def QU:=bk [.list (.st 9),.aB 280 (.aJ (.box tI) (.box tI))] [.bool] Fb [Q8] Tryz.func279
def HP:=bk [.st 21,tI,tI] [.bool] iD [QU] Tryz.func228
def QD:=bk [.st 21] [.bool] Am [HQ,HO,HP] Tryz.func134
def Qu:=bk [.st 11] [.bool] Ag [Qz,Qw,QC,Qv,QD] Tryz.func60
def Qt:=bk [.st 10,.box (.st 19)] [.bool] E4 [] Tryz.func62
def Q7:=bk [.list (.st 10),.aB 62 (.box (.st 19))] [tI] Fh [Qt] Tryz.func138
def QT:=bk [.list (.st 10),.aB 62 (.box (.st 19))] [.bool] iF [Q7] Tryz.func63
def B6:=bk [.st 11] [.list (.st 19),tI] rA [Qu,HQ,HO,QT,HP] Tryz.func26
def sv:=bk [.st 0] [.bool] l5 [HN] Tryz.func66
def Pd:=bk [.st 0] [.bool] zu [sv] Tryz.func261
def HH:=bk [tI,tI,tI] [.bool] ry [] Tryz.func240
def nD:=bk [.st 3] [.bool] gY [HH] Tryz.func158
def Pc:=bk [.st 16] [.bool] zt [Pd,nD] Tryz.func185
def Pe:=bk [.st 16] [.bool] EN [Pc] Tryz.func184
def Q4:=bk [.list (.st 16),.fn 184] [.bool] AD [Pe] Tryz.func146
def xL:=bk [.st 18] [.bool] rn [Q4] Tryz.func95
def QS:=bk [.list tI] [.aB 231 (.box (.list tI))] LG [] Tryz.func145
def Q3:=bk [.list (.st 16),.aB 147 (.box tI)] [.bool] AB [] Tryz.func146
def O5:=bk [.st 17,.box (.list tI)] [.aB 148 (.box tI)] zo [QS,Q3] Tryz.func144
def Pg:=bk [.st 17,.box (.aB 144 (.box (.list tI)))] [.st 17] wa [O5] Tryz.func208
def O9:=bk [.list (.st 17),.aB 208 (.box (.aB 144 (.box (.list tI))))] [.list (.st 17)] EM [Pg] Tryz.func207
def Pj:=bk [.st 18,.aB 144 (.box (.list tI))] [.st 18] EP [O9] Tryz.func117
def HA:=bk [.st 18,.list tI] [.st 18,tI] lY [xL,Pj] Tryz.func67
def uM:=bk [tI,tI,tI] [.bool] iE [] Tryz.func194
def HS:=bk [tI] [.bool] tY [uM] Tryz.func110
def PD:=bk [.st 0] [.bool] wc [sv] Tryz.func139
def xP:=bk [.st 0,.st 0] [tI,tI] pO [sv] Tryz.func28
def PE:=bk [.st 0,.st 0] [.bool] we [xP] Tryz.func140
def BZ:=bk [.list (.st 1)] [.bool] tN [PD,PE] Tryz.func64
def HF:=bk [.st 2] [.bool] ru [HH] Tryz.func284
def xM:=bk [.st 2] [.st 2,tI] ou [HF] Tryz.func238
def Pq:=bk [.st 2] [.bool] ER [xM] Tryz.func315
def BU:=bk [.st 2] [tI,tI] tJ [Pq] Tryz.func301
def QO:=bk [.st 2] [.bool] rB [BU,uM] Tryz.func265
def HG:=bk [.st 3] [tI] pL [] Tryz.func159
def su:=bk [.st 3] [tI,tI] lZ [nD,HG] Tryz.func74
def HR:=bk [.st 3] [tI] mZ [su] Tryz.func202
def QL:=bk [.st 4] [.bool] Ar [HS,uM,QO,nD,HR] Tryz.func195
def QI:=bk [.st 4,.box (.map tI (.st 4))] [.bool] Ap [] Tryz.func196
def Rb:=bk [.list (.st 4),.aB 196 (.box (.map tI (.st 4)))] [tI] AE [QI] Tryz.func152
def QX:=bk [.list (.st 4),.aB 196 (.box (.map tI (.st 4)))] [.bool] Ay [Rb] Tryz.func197
def QH:=bk [.list (.st 4)] [.bool] Ao [uM,QL,QX] Tryz.func111
def HC:=bk [.list (.st 1)] [.map tI tI] wh [] Tryz.func198
def HD:=bk [.st 0] [tI,.bool] pK [sv] Tryz.func266
def B0:=bk [tI,tI,tI] [.bool] rq [] Tryz.func268
def PI:=bk [tI] [.bool] wi [B0] Tryz.func267
def PJ:=bk [.st 3] [.bool] zJ [nD,B0] Tryz.func269
def PH:=bk [.st 1,.st 5] [.bool] zH [HD,PI,B0,PJ] Tryz.func199
def HB:=bk [.list (.st 1),.list (.st 5)] [.bool] wg [BZ,HC,PH] Tryz.func112
def QQ:=bk [.st 5,.box (.map tI (.st 4))] [.bool] Au [] Tryz.func200
def Q9:=bk [.list (.st 5),.aB 200 (.box (.map tI (.st 4)))] [tI] Fj [QQ] Tryz.func270
def QV:=bk [.list (.st 5),.aB 200 (.box (.map tI (.st 4)))] [.bool] Aw [Q9] Tryz.func203
def QR:=bk [.st 5,.box (.map tI (.st 4))] [.bool] Av [HR,uM] Tryz.func201
def Ra:=bk [.list (.st 5),.aB 201 (.box (.map tI (.st 4)))] [tI] Fk [QR] Tryz.func270
def QW:=bk [.list (.st 5),.aB 201 (.box (.map tI (.st 4)))] [.bool] Ax [Ra] Tryz.func203
def QP:=bk [.list (.st 4),.list (.st 5)] [tI] wy [QV,QW] Tryz.func113
def Q6:=bk [.list (.st 5),.list (.st 5)] [.bool] Fg [] Tryz.func115
def QM:=bk [.st 4] [tI] Fa [] Tryz.func150
def QJ:=bk [.st 4,.box (.fn 150),.box tI] [.bool] E9 [QM] Tryz.func233
def Rc:=bk [.list (.st 4),.aB 233 (.aJ (.box (.fn 150)) (.box tI))] [tI] AF [QJ] Tryz.func152
def QK:=bk [.list (.st 4),tI,.fn 150] [tI,.bool] Aq [Rc] Tryz.func149
def QN:=bk [.st 6,.st 4] [.aB 234 (.aJ (.box (.st 6)) (.aJ (.box tI) (.box (.st 4))))] As [] Tryz.func151
def Rq:=bk [.st 4,.box tI] [.bool] Fu [] Tryz.func153
def Re:=bk [.list (.st 4),.aB 153 (.box tI)] [tI] AG [Rq] Tryz.func152
def B9:=bk [.st 6,tI] [.st 23,.bool] ua [Re] Tryz.func69
def Pp:=bk [tI,tI] [.bool] tG [] Tryz.func307
def Po:=bk [.st 3] [tI] wb [su] Tryz.func308
def BT:=bk [.st 4] [.bool] tH [BU,Pp,nD,Po] Tryz.func282
def Pr:=bk [tI] [.bool] rp [] Tryz.func309
def BV:=bk [tI,.st 2] [tI,.st 2,tI] tL [BU,Pr] Tryz.func283
def PM:=bk [.st 3] [tI] EX [] Tryz.func286
def PN:=bk [tI,tI] [tI,tI] zL [] Tryz.func285
def HE:=bk [.st 3,.st 2] [.st 3,tI] wj [nD,HF,PM,PN,HG] Tryz.func239
def Pn:=bk [.st 4,tI,.st 3] [.st 3,tI] zA [BT,xM,BV,nD,HE] Tryz.func235
def Ru:=bk [.st 23,.st 1,.st 5] [.st 16] wH [Pn] Tryz.func155
def Pk:=bk [.st 4,tI] [tI,tI] zw [BT,xM,BV] Tryz.func179
def HW:=bk [.st 23,.st 1,.list (.st 16)] [.st 17] wG [Pk] Tryz.func90
def HX:=bk [.st 0] [tI] pP [sv] Tryz.func182
def Rt:=bk [.st 16] [tI] wF [su] Tryz.func180
def OY:=bk [tI] [.bool] zm [] Tryz.func260
def Hz:=bk [tI,tI] [tI] pJ [OY] Tryz.func181
def xK:=bk [.list tI] [tI] rm [] Tryz.func77
def Rs:=bk [.st 16,.st 16] [tI] wE [HX,Hz,Rt,xK] Tryz.func92
def Rk:=bk [.list (.st 16),.fn 92] [.bool] AH [Rs] Tryz.func91
def Rv:=bk [tI,tI,tI] [.bool] wI [] Tryz.func183
def Rr:=bk [.st 16,.st 0] [.bool] wD [Rv,HX,nD] Tryz.func93
def Pm:=bk [.st 4,tI,.st 3] [.st 3,tI] zy [BT,xM,BV,nD,HE] Tryz.func156
def Qq:=bk [.box (.st 0),.box (.st 0)] [.st 20] E2 [] Tryz.func53
def Qr:=bk [.st 20] [.st 0,tI] Af [HN,B5] Tryz.func124
def Qs:=bk [.st 0,.st 0,.aB 53 (.aJ (.box (.st 0)) (.box (.st 0)))] [.st 0,tI] E3 [sv,Qq,Qr] Tryz.func52
def xO:=bk [.st 0,.st 0] [.st 0,tI] fg [Qs] Tryz.func23
def Px:=bk [.map tI (.bool)] [.aB 276 (.box (.map tI (.bool)))] LA [] Tryz.func206
def O1:=bk [.st 17,.box tI] [.aB 119 (.box tI)] Lz [] Tryz.func118
def Pf:=bk [.st 17,.box (.aB 118 (.box tI))] [.st 17] vZ [O1] Tryz.func208
def O8:=bk [.list (.st 17),.aB 208 (.box (.aB 118 (.box tI)))] [.list (.st 17)] EL [Pf] Tryz.func207
def Ph:=bk [.st 18,.aB 118 (.box tI)] [.st 18] EO [O8] Tryz.func117
def O0:=bk [.st 18,tI] [.st 18,tI] vX [xL,Ph] Tryz.func47
def O3:=bk [.st 18] [.bool] EI [xL] Tryz.func94
def Rh:=bk [.list (.st 18),.fn 94] [tI] Fo [O3] Tryz.func89
def Q0:=bk [.list (.st 18),.fn 94] [.bool] AA [Rh] Tryz.func39
def Pb:=bk [.st 17,.st 17] [.bool] zr [] Tryz.func187
def Q5:=bk [.list (.st 17),.list (.st 17),.fn 187] [.bool] Ff [Pb] Tryz.func186
def Pa:=bk [.st 18,.st 18] [.bool] zq [Q5] Tryz.func97
def O4:=bk [.st 18,.box (.list (.st 18))] [.bool] EJ [Pa] Tryz.func96
def Ri:=bk [.list (.st 18),.aB 96 (.box (.list (.st 18)))] [tI] Fp [O4] Tryz.func89
def Q1:=bk [.list (.st 18),.aB 96 (.box (.list (.st 18)))] [.bool] Fe [Ri] Tryz.func39
def Py:=bk [.map tI (.st 16)] [.aB 190 (.box (.map tI (.st 16)))] ET [] Tryz.func99
def B4:=bk [.list (.st 15),.list (.st 15)] [.bool] l4 [] Tryz.func13
def P7:=bk [.st 11] [.bool] zY [] Tryz.func30
def Qn:=bk [.st 13,.st 14] [.bool] Ad [P7] Tryz.func9
def PU:=bk [tI,tI] [tI] zQ [] Tryz.func171
def B3:=bk [.st 0] [tI] pM [PU] Tryz.func85
def HK:=bk [.list (.st 1)] [.bool] wk [B3] Tryz.func54
def xN:=bk [tI,tI,tI] [.bool] k9 [] Tryz.func56
def PT:=bk [tI,tI,tI] [.bool] zP [] Tryz.func333
def PS:=bk [.st 2] [.bool] EZ [PT] Tryz.func305
def PR:=bk [.st 2] [tI,tI] zO [PS] Tryz.func277
def P4:=bk [.st 2] [.bool] zW [PR,xN] Tryz.func217
def HJ:=bk [tI,tI,tI] [.bool] rz [] Tryz.func256
def HI:=bk [.st 3] [.bool] tO [HJ] Tryz.func175
def PQ:=bk [tI] [tI] EY [] Tryz.func264
def B2:=bk [.st 3] [tI] l3 [PQ] Tryz.func192
def P1:=bk [.st 4] [.bool] zU [xN,P4,HI,B2] Tryz.func125
def HM:=bk [.list (.st 4),tI] [tI] tR [] Tryz.func101
def P2:=bk [.list (.st 4)] [.bool] zV [P1,HM] Tryz.func55
def HL:=bk [.list (.st 1),tI] [tI] wm [] Tryz.func218
def PO:=bk [.st 3] [.bool] zN [HI,HJ] Tryz.func219
def PY:=bk [tI,tI,tI] [.bool] tP [] Tryz.func220
def PW:=bk [.list (.st 1),.st 5] [.bool] zS [HL,PO,PY,B3] Tryz.func126
def PX:=bk [.list (.st 1),.list (.st 5)] [.bool] zT [HK,PW] Tryz.func57
def P0:=bk [.list (.st 4),.st 5] [tI] tQ [HM] Tryz.func127
def P3:=bk [.st 4,.st 3] [.bool] E0 [B2,xN] Tryz.func128
def P6:=bk [.list (.st 4),.list (.st 5)] [tI] wq [P0,P3] Tryz.func58
def PZ:=bk [.list (.st 1),.st 5] [.list tI] wo [HL,B3,B2] Tryz.func129
def PV:=bk [.list (.st 1),.st 5,.st 5] [.bool] zR [PZ] Tryz.func59
def P5:=bk [.st 6] [.bool] zX [HK,P2,xN,PX,P6,PV] Tryz.func25
def Qh:=bk [.list (.st 8),tI] [.bool] Aa [] Tryz.func162
def Qc:=bk [.list (.st 8),tI,tI] [.bool] z7 [] Tryz.func251
def Qa:=bk [.st 11] [.bool] z6 [Qc] Tryz.func163
def Qk:=bk [.list (.st 8),tI] [.bool] tU [] Tryz.func252
def Qf:=bk [.st 11] [.bool] z8 [Qk] Tryz.func164
def P9:=bk [.st 11,.st 10] [.bool] wu [] Tryz.func165
def Qb:=bk [.list (.st 10),.st 10] [tI] wv [] Tryz.func166
def Qi:=bk [.st 11,tI] [tI] tT [] Tryz.func214
def Qg:=bk [.st 11,tI,tI] [.bool] ov [] Tryz.func215
def Qj:=bk [.st 11] [.list tI] Ab [Qi,Qg] Tryz.func51
def P8:=bk [.st 11] [.bool] zZ [Qh,Qa,Qf,P9,Qb,Qj] Tryz.func78
def Qm:=bk [tI,tI,tI] [.bool] E1 [] Tryz.func120
def Ql:=bk [.list tI] [.bool] Ac [Qm] Tryz.func79
def Qo:=bk [.st 13,.st 14] [.bool] Ae [P5,P8,Ql] Tryz.func36
def BY:=bk [.st 13,.st 14] [.bool] tM [Qn,Qo] Tryz.func19
def PB:=bk [.list (.st 1)] [.aB 229 (.box (.list (.st 1)))] LC [] Tryz.func141
def PF:=bk [] [.st 0] EV [] Tryz.func142
def PA:=bk [.list (.st 1),tI] [.st 0] EU [PB,PF,xO] Tryz.func65
def Pz:=bk [.list (.st 1)] [.st 0,tI] zF [BZ,PA] Tryz.func27
def PL:=bk [.st 5,.st 5,.box (.map tI tI)] [tI] EW [HD,su,xK] Tryz.func273
def Ro:=bk [.st 3] [tI] wB [su] Tryz.func73
def Rp:=bk [.st 15,.st 15,.box (.fn 73)] [tI] Ft [xP,Ro,xK] Tryz.func76
def O7:=bk [.st 16,.st 16] [tI] EK [xP,su,Hz,xK] Tryz.func100
end Go.Proofs.YthhlipkkjippfaaGreatDoor
namespace Go.Proofs.YthhlipkkjippfaaGreatDoor
open Go Go.ag Go.Sy
@[reducible] def cB:mh:=⟨False⟩
attribute [local instance] bV cB
def AN:∀(k:Nat)(a b:Int),b.natAbs<=k->0<=a->0<=b->fT a b=(Int.gcd a b:Int)
 |k,a,b,hk,j,B=>by
  by_cases h:b=0
  ·subst h;rw[AP];simp[Int.gcd];omega
  rw[Fy h,o1 j]
  have F:0<=a%b:=Int.emod_nonneg _ h
  have G:a%b<b:=Int.emod_lt_of_pos _ (by omega)
  match k,hk with
  |0,hk=>omega
  |k+1,hk=>
   rw[AN k b (a%b) (by omega) B F]
   congr 1
   unfold Int.gcd
   have e:(a%b).natAbs=a.natAbs%b.natAbs:=by
    obtain⟨x,rfl⟩:=x1 j
    obtain⟨y,rfl⟩:=x1 B
    rw[<-Int.natCast_emod];rfl
   rw[e,Nat.gcd_comm,<-Nat.gcd_rec,Nat.gcd_comm]
def LD{n:Int}(h: -1000000000000<=n/\n<=1000000000000):ow n=some (n.natAbs:Int):=by
 unfold ow jH
 rw[aC (by omega)]
 congr 1
 omega
def je(q:Rat):Prop:=1<=q.d/\q.d<=1000000 /\ -1000000000<=q.n/\q.n<=1000000000/\Int.gcd q.n q.d=1
instance (q:Rat):Decidable (je q):=inferInstanceAs (Decidable (_/\_/\_/\_/\_))
def WW{n d:Int}(F:1<=d)(G:d<=1000000)(M: -1000000000<=n)(N:n<=1000000000):pI ⟨n,d⟩=some ⟨n.tdiv (Int.gcd n d),d.tdiv (Int.gcd n d)⟩:=by
 unfold pI
 rw[LD (by dsimp only;omega),af,LD (by dsimp only;omega),af,aj (by simp;omega),AN _ _ _ (eb _) (by omega) (by omega)]
 have j:((Int.gcd (n.natAbs:Int) (d.natAbs:Int):Nat):Int)=(Int.gcd n d:Int):=by simp[Int.gcd]
 dsimp only
 rw[j]
 have O:0<Int.gcd n d:=Qe n (by omega)
 have k:((n.tdiv (Int.gcd n d)).natAbs)<=n.natAbs:=by rw[abt];exact tt _ _
 have B:((d.tdiv (Int.gcd n d)).natAbs)<=d.natAbs:=by rw[abt];exact tt _ _
 unfold tF
 rw[sU (by omega),sU (by unfold gT;dsimp only;omega),sU (by unfold gT;dsimp only;omega)]
def RB(a b:Fraction):HZ a b=decide (a=b):=by
 obtain⟨j,k⟩:=a
 obtain⟨B,F⟩:=b
 rw[hI,ek,Fraction.mk.injEq]
 show cV [.int .i64 j,.int .i64 k] [.int .i64 B,.int .i64 F]=true↔_
 simp[cV,ga]
def rL(q:Rat):l5 q=some (decide (je q)):=by
 obtain⟨n,d⟩:=q
 have G:¬(1<=d/\d<=1000000 /\ -1000000000<=n/\n<=1000000000)->decide (je ⟨n,d⟩)=false:=λh=>dk λk=>h ⟨k.1,k.2.1,k.2.2.1,k.2.2.2.1⟩
 unfold l5 tV
 dsimp only
 by_cases B:d<1
 ·rw[ak (by simp[B]),af,ak rfl,G (by omega)]
 by_cases j:1000000<d
 ·rw[aj (by simp[B]),ak (by simp[j]),af,ak rfl,G (by omega)]
 by_cases F:n < -1000000000
 ·rw[aj (by simp[B]),aj (by simp[j]),ak (by simp[F]),af,ak rfl,G (by omega)]
 rw[aj (by simp[B]),aj (by simp[j]),aj (by simp[F]),af]
 by_cases h:1000000000<n
 ·rw[ak (by simp[h]),G (by omega)]
 rw[aj (by simp[h]),WW (by omega) (by omega) (by omega) (by omega),af,RB]
 congr 1
 rw[hI,ek,ek,Fraction.mk.injEq]
 have O:0<Int.gcd n d:=Qe n (by omega)
 constructor
 ·rintro⟨_,j⟩
  refine⟨by dsimp only;omega,by dsimp only;omega,by dsimp only;omega,by dsimp only;omega,?_⟩
  by_cases N:Int.gcd n d=1
  ·exact N
  exfalso
  have F:(d.tdiv (Int.gcd n d)).natAbs=d.natAbs/Int.gcd n d:=by rw[abt];rfl
  rw[j]at F
  have:d.natAbs/Int.gcd n d<d.natAbs:=Nat.div_lt_self (by omega) (by omega)
  omega
 rintro⟨_,_,_,_,M⟩
 dsimp only at M
 rw[M];simp
def bR(p:aP):Prop:=(0<=p.step/\p.step<=6)/\(-4<=p.alter/\p.alter<=4)/\(-8<=p.aZ/\p.aZ<=20)
instance (p:aP):Decidable (bR p):=inferInstanceAs (Decidable (_/\_/\_))
def zM(n lo hi:Int):ry (n,lo,hi)=some (decide (lo<=n/\n<=hi)):=lz n lo hi
def L5(n lo hi:Int):rz (n,lo,hi)=some (decide (lo<=n/\n<=hi)):=lz n lo hi
def XI(n lo hi:Int):tP (n,lo,hi)=some (decide (lo<=n/\n<=hi)):=lz n lo hi
def AV(n lo hi:Int):k9 (n,lo,hi)=some (decide (lo<=n/\n<=hi)):=lz n lo hi
def EA(n lo hi:Int):rq (n,lo,hi)=some (decide (lo<=n/\n<=hi)):=lz n lo hi
def xf(n lo hi:Int):iE (n,lo,hi)=some (decide (lo<=n/\n<=hi)):=lz n lo hi
def Wb(n:Int):wi n=some (decide (1<=n/\n<=1000000)):=by unfold wi;rw[EA,af]
def Na(n:Int):tY n=some (decide (1<=n/\n<=1000000)):=by unfold tY;rw[xf,af]
def lW(p:aP):gY p=some (decide (bR p)):=by
 unfold gY bR
 simp only[zM,af,xE]
 exact jL (by simp[n3])
def L4(p:aP):tO p=some (decide (bR p)):=by
 unfold tO bR
 simp only[L5,af,xE]
 exact jL (by simp[n3])
def tA:List Int:=[0,2,4,5,7,9,11]
def gW(n:Int):Int:=(tA[n.toNat]?).getD 0
def num(p:aP):Int:=12*p.aZ+gW p.step+p.alter
def vS(n:Int):0<=gW n/\gW n<=11:=by
 unfold gW tA
 generalize n.toNat=k
 rcases k with _|_|_|_|_|_|_|k<;>simp
def XA{n:Int}(h:0<=n/\n<=6):EY n=some (gW n):=by
 have:n=0\/n=1\/n=2\/n=3\/n=4\/n=5\/n=6:=by omega
 rcases this with rfl|rfl|rfl|rfl|rfl|rfl|rfl<;>rfl
def ug{p:aP}(h:bR p):l3 p=some (num p):=by
 have F:=vS p.step
 obtain⟨j,k,B⟩:=h
 unfold l3
 rw[aC (by omega),XA j,af,aC (by omega),aC (by omega)]
 rfl
def LV{p:aP}(h:bR p):pL p=some (num p):=by
 obtain⟨⟨j,B⟩,⟨F,G⟩,M,N⟩:=h
 have O:=vS p.step
 have k:au [0,2,4,5,7,9,11] p.step=some (gW p.step):=by
  show au tA p.step=_
  unfold au gW
  rw[if_pos j]
  have:p.step.toNat<tA.length:=by show _<7;omega
  rw[c4 this];rfl
 unfold pL
 rw[aC (by omega),aY k,aC (by omega),aC (by omega)]
 rfl
def pH(p:aP):lZ p=some (if bR p then(num p,0)else(0,1)):=by
 unfold lZ
 rw[lW,af]
 by_cases h:bR p
 ·rw[aj (by simp[h]),if_pos h,LV h,af]
 rw[ak (by simp[h]),if_neg h]
def w9{p:aP}(h:bR p):mZ p=some (num p):=by
 unfold mZ
 rw[pH,if_pos h,af]
def rj{p:aP}(h:bR p): -1000<=num p/\num p<=1000:=by
 have:=vS p.step
 unfold bR at h
 unfold num
 omega
def kY(p:aP):Prop:=bR p/\(-2<=p.alter/\p.alter<=2)/\(0<=p.aZ/\p.aZ<=9)
instance (p:aP):Decidable (kY p):=inferInstanceAs (Decidable (_/\_/\_))
def Xz(p:aP):zN p=some (decide (kY p)):=by
 unfold zN kY
 simp only[L4,L5,af,xE]
 exact jL (by simp[n3])
def Wc(p:aP):zJ p=some (decide (kY p)):=by
 unfold zJ kY
 simp only[lW,EA,af,xE]
 exact jL (by simp[n3])
def fI(x y:Int):Int:=if x<y then -1 else if y<x then 1 else 0
def wV{a b:Rat}(j:je a)(k:je b):pO (a,b)=some (fI (a.n*b.d) (b.n*a.d),0):=by
 unfold pO
 simp only[rL,af,vq,j,k,abb,qn,hX,ih]
 have key:∀{x y:Rat},je x->je y -> -9223372036854775808<=x.n*y.d/\x.n*y.d<=9223372036854775807:=by
  intro x y ⟨_,_,B,F,_⟩ ⟨N,O,_⟩
  have G:x.n*y.d<=1000000000*y.d:=tv F (by omega)
  have M: -1000000000*y.d<=x.n*y.d:=tv B (by omega)
  omega
 rw[aC (key j k),aC (key k j)]
 unfold fI
 simp only[ek]
 split
 ·rfl
 split<;>rfl
def bI(q:Rat):Prop:=je q/\0<=q.n/\Int.tmod 1680 q.d=0
instance (q:Rat):Decidable (bI q):=inferInstanceAs (Decidable (_/\_/\_))
def bp(q:Rat):Int:=q.n*Int.tdiv 1680 q.d
def xh{q:Rat}(h:je q):0<=Int.tdiv 1680 q.d/\Int.tdiv 1680 q.d<=1680:=by
 have B:=h.1
 obtain⟨k,j⟩:∃k:Nat,q.d=k:=⟨q.d.toNat,by omega⟩
 rw[j]
 exact⟨Int.tdiv_nonneg (by omega) (by omega),by
  have:=Int.tdiv_le_self (a:=1680) (k:Int) (by omega);exact this⟩
def lr{q:Rat}(h:bI q):0<=bp q/\bp q<=1680000000000:=by
 obtain⟨j,B,_⟩:=h
 obtain⟨k,F⟩:=xh j
 have G:=j.2.2.2.1
 unfold bp
 refine⟨Int.mul_nonneg B k,?_⟩
 calc q.n*Int.tdiv 1680 q.d<=1000000000*1680:=Int.mul_le_mul G F k (by omega)
  _=1680000000000:=by decide
def vU(q:Rat):pK q=some (if bI q then(bp q,true)else(0,false)):=by
 unfold pK
 rw[rL,af]
 by_cases j:je q
 ·have M:q.d≠0:=by have:=j.1;omega
  have F:(!(aA q.d 0))=true:=by simp[M]
  rw[aj (by simp[j])]
  by_cases B:q.n<0
  ·rw[ak (by simp[B]),af,ak rfl,if_neg (by unfold bI;omega)]
  rw[aj (by simp[B]),cq F,af]
  by_cases k:Int.tmod 1680 q.d=0
  ·have G:bI q:=⟨j,by omega,k⟩
   have:=lr G
   have:=xh j
   unfold bp at *
   rw[aj (by simp[k]),cq F,aC (by omega),aC (by omega),if_pos G]
  rw[ak (by simp[k]),if_neg (by unfold bI;simp[k])]
 rw[ak (by simp[j]),af,ak rfl,if_neg (λh=>j h.1)]
def GW(q:Rat):pP q=some (if bI q then bp q else -1):=by
 unfold pP
 rw[rL,af]
 by_cases j:je q
 ·have M:q.d≠0:=by have:=j.1;omega
  have F:(!(aA q.d 0))=true:=by simp[M]
  rw[aj (by simp[j])]
  by_cases B:q.n<0
  ·rw[ak (by simp[B]),af,ak rfl,if_neg (by unfold bI;omega)]
  rw[aj (by simp[B]),cq F,af]
  by_cases k:Int.tmod 1680 q.d=0
  ·have G:bI q:=⟨j,by omega,k⟩
   have:=lr G
   have:=xh j
   unfold bp at *
   rw[aj (by simp[k]),cq F,aC (by omega),aC (by omega),if_pos G]
  rw[ak (by simp[k]),if_neg (by unfold bI;simp[k])]
 rw[ak (by simp[j]),af,ak rfl,if_neg (λh=>j h.1)]
def XE(a b:Int):zQ (a,b)=some (fT a b):=by
 unfold zQ
 dsimp only
 have key:∀(k:Nat)(a b:Int),b.natAbs<=k->ay (λj:(Int×Int)=>ab (!(aA j.2 0)) (ae (!(aA j.2 0)) <|some (.inl (j.2,(Int.tmod j.1 j.2)))) (some (.inr j.1))) (a,b)=some (fT a b):=by
  intro k
  induction k with
  |zero=>
   intro a b B
   have:b=0:=by omega
   subst this
   rw[AP]
   exact gC (by dsimp only;rw[aj (by simp)])
  |succ k F=>
   intro a b B
   by_cases h:b=0
   ·subst h
    rw[AP]
    exact gC (by dsimp only;rw[aj (by simp)])
   rw[Fy h,kU (z':=(b,a.tmod b)) (by dsimp only;rw[ak (by simp[h]),cq (by simp[h])])]
   refine F b _ ?_
   have:(a.tmod b).natAbs<b.natAbs:=by rw[abr];exact rv _ (by omega)
   omega
 rw[key _ a b (eb _),af]
def S8{d:Int}(B:1<=d)(j:Int.tmod 1680 d=0):d<=1680:=by
 have:=F4 1680 d
 rw[j]at this
 refine hB λh=>?_
 have k:Int.tdiv 1680 d=0:=Int.tdiv_eq_zero_of_lt (by omega) (by omega)
 rw[k]at this;omega
def wR(q:Rat):pM q=some (if bI q then bp q else -1):=by
 unfold pM
 by_cases F:q.d<1
 ·have:¬bI q:=λh=>by have:=h.1.1;omega
  rw[ak (by simp[F]),af,ak rfl,if_neg this]
 have O:q.d≠0:=by omega
 have N:(!(aA q.d 0))=true:=by simp[O]
 rw[aj (by simp[F]),cq N]
 by_cases j:Int.tmod 1680 q.d=0
 ·rw[aj (by simp[j])]
  by_cases G:q.n<0
  ·have:¬bI q:=λh=>by have:=h.2.1;omega
   rw[ak (by simp[G]),af,ak rfl,if_neg this]
  rw[aj (by simp[G])]
  by_cases M:1000000000<q.n
  ·have:¬bI q:=λh=>by have:=h.1.2.2.2.1;omega
   rw[ak (by simp[M]),af,ak rfl,if_neg this]
  rw[aj (by simp[M]),XE,AN _ _ _ (eb _) (by omega) (by omega),af,af]
  have Y:=S8 (by omega) j
  by_cases k:Int.gcd q.n q.d=1
  ·have B:bI q:=⟨⟨by omega,by omega,by omega,by omega,k⟩,by omega,j⟩
   have Z:=xh B.1
   have U:=lr B
   unfold bp at U
   rw[aj (by simp[k]),cq N,aC (by omega),aC (by omega),if_pos B]
   rfl
  have:¬bI q:=λh=>k h.1.2.2.2.2
  rw[ak (by simp;omega),if_neg this]
 have:¬bI q:=λh=>j h.2.2
 rw[ak (by simp[j]),af,ak rfl,if_neg this]
def p8{q:Rat}(h:bI q):0<=bp q:=(lr h).1
def Gx{q:Rat}(h:bI q):q.d*Int.tdiv 1680 q.d=1680/\0<q.d/\0<Int.tdiv 1680 q.d:=by
 have j:=F4 1680 q.d
 rw[h.2.2]at j
 have k:=h.1.1
 have B:=(xh h.1).1
 refine⟨by omega,by omega,?_⟩
 rcases Int.lt_or_le 0 (Int.tdiv 1680 q.d)with h4|h4
 ·exact h4
 have:Int.tdiv 1680 q.d=0:=by omega
 rw[this]at j;simp at j
end Go.Proofs.YthhlipkkjippfaaGreatDoor
namespace Go.Proofs.YthhlipkkjippfaaGreatDoor
open Go Go.ag Go.Sy
attribute [local instance] bV cB
def EF(z:Int):Unit⊕Int:=if z=0 then .inl ()else .inr z
def xV(l:List Int)(Y:l.length<=1000):rm l=some (cQ l):=by
 have key:∀(n k:Nat),k+n=l.length->ay (λF:Int=>ab (ah F (l.length:Int)) (aa (au l F) λN=>ab (!(aA N 0)) (some (.inr (.inr N))) (ae (ai (F+1)) <|some (.inl (F+1)))) (some (.inr (.inl ())))) (k:Int)=some (EF (cQ (l.drop k))):=by
  intro n
  induction n with
  |zero=>
   intro k O
   rw[lB (by omega)]
   refine gC ?_
   rw[aj (by simp;omega)];rfl
  |succ n U=>
   intro k O
   have B:k<l.length:=by omega
   have G:l[k]?=some l[k]:=c4 B
   rw[h9 B]
   simp only[cQ]
   by_cases j:l[k]=0
   ·rw[if_pos j,kU (z':=((k+1:Nat):Int)) (by
     rw[ak (by simpa using B),aY (aS G),aj (by simp[j]),aC (by omega)];rfl)]
    exact U (k+1) (by omega)
   rw[if_neg j]
   refine gC ?_
   rw[ak (by simpa using B),aY (aS G),ak (by simp[j])]
   simp[j,EF]
 have M:=key l.length 0 (by omega)
 rw[r2]at M
 unfold rm
 refine(fN M).trans ?_
 unfold EF
 by_cases h:cQ l=0
 ·rw[if_pos h,h];rfl
 rw[if_neg h];rfl
def nK(at_:List (Int×Int))(a:aq):List Int:=[an at_ a.az 0,a.part,bp a.start,a.bc,num a.aR,a.id]
theorem vR(at_:List (Int×Int))(a:aq):(nK at_ a).length=6:=rfl
def oh(at_:List (Int×Int))(a:aq):Prop:=(0<=an at_ a.az 0/\an at_ a.az 0<=1000000)/\(0<=a.part/\a.part<=1000000)/\bI a.start/\(0<=a.bc/\a.bc<=1000000)/\bR a.aR/\(0<=a.id/\a.id<=1000000)
instance (at_:List (Int×Int)) (a:aq):Decidable (oh at_ a):=inferInstanceAs (Decidable (_/\_/\_/\_/\_/\_))
def V4{at_:List (Int×Int)}{a b:aq}(G:oh at_ a)(M:oh at_ b):EW (a,b,at_)=some (cr (nK at_) a b):=by
 obtain⟨N,O,j,U,k,Y⟩:=G
 obtain⟨Z,aa,B,ab,F,ad⟩:=M
 have ah:=lr j
 have ai:=lr B
 have ae:=rj k
 have ag:=rj F
 unfold EW
 dsimp only
 rw[vU,if_pos j,af,vU,if_pos B,af,pH,if_pos k,af,pH,if_pos F,af]
 dsimp only
 rw[aC (by omega),aC (by omega),aC (by omega),aC (by omega),aC (by omega),aC (by omega),xV _ (by simp),af]
 rfl
end Go.Proofs.YthhlipkkjippfaaGreatDoor
namespace Go.Proofs.YthhlipkkjippfaaGreatDoor
open Go Go.ag Go.Sy
attribute [local instance] bV cB
def oE(d:Int):Int:=if d<0 then -1 else if 0<d then 1 else 0
def ur(S:List Bool)(l:List Int):List Int:=l.zipWith (λd s=>if s then oE d else d) S
def YK(d:Int):(oE d=0↔d=0)/\(oE d<0↔d<0):=by
 unfold oE
 split
 ·omega
 split<;>omega
def Jw:∀(l:List Int)(S:List Bool),l.length=S.length->(cQ (ur S l)=0↔cQ l=0)/\(cQ (ur S l)<0↔cQ l<0)
 | [],[],_=>by simp[ur,cQ]
 |d::l,s::S,h=>by
  have k:=Jw l S (by simpa using h)
  have j:=YK d
  have e:ur (s::S) (d::l)=(if s then oE d else d)::ur S l:=rfl
  rw[e]
  cases s with
  |false=>
   simp only[hX,ih,cQ]
   split<;>simp_all
  |true=>
   simp only[hQ,cQ,j.1]
   split<;>simp_all
 | [],_::_,h=>by simp at h
 |_::_,[],h=>by simp at h
def ju{α:Type}(S:List Bool)(K:α->List Int)(a b:α):Int:=cQ (ur S ((K a).zipWith (· - ·) (K b)))
def x7{α:Type}{S:List Bool}{K:α->List Int}(j:∀a,(K a).length=S.length)(a b:α):ju S K a b<0↔cr K a b<0:=(Jw _ S (by simp[j])).2
def pZ{α:Type}{S:List Bool}{K:α->List Int}(j:∀a,(K a).length=S.length):Go.Sort.SWO (Go.Proofs.ltOf (ju S K)):=by
 have e:Go.Proofs.ltOf (ju S K)=Go.Proofs.ltOf (cr K):=by
  funext a b
  exact ka.2 (x7 j a b)
 rw[e];exact Bj j
def Ir(a b:Int):fI a b=oE (a-b):=by
 unfold fI oE
 repeat' split
 all_goals omega
def x8{a b:Rat}(N:bI a)(O:bI b):fI (a.n*b.d) (b.n*a.d)=oE (bp a-bp b):=by
 obtain⟨⟨aa,ab,_⟩,_,ad⟩:=N
 obtain⟨⟨ae,af,_⟩,_,ag⟩:=O
 have B:a.d*Int.tdiv 1680 a.d=1680:=by have:=Int.mul_tdiv_add_tmod 1680 a.d;omega
 have F:b.d*Int.tdiv 1680 b.d=1680:=by have:=Int.mul_tdiv_add_tmod 1680 b.d;omega
 rw[<-Ir]
 unfold bp
 generalize Int.tdiv 1680 a.d=j at B⊢
 generalize Int.tdiv 1680 b.d=k at F⊢
 have Y:0<j:=by
  rcases Int.lt_trichotomy j 0 with h|h|h
  ·have:=Int.mul_neg_of_pos_of_neg (by omega:0<a.d) h;omega
  ·subst h;simp at B
  exact h
 have Z:0<k:=by
  rcases Int.lt_trichotomy k 0 with h|h|h
  ·have:=Int.mul_neg_of_pos_of_neg (by omega:0<b.d) h;omega
  ·subst h;simp at F
  exact h
 have pc:0<j*k:=Int.mul_pos Y Z
 have G:a.n*b.d*(j*k)=(a.n*j)*1680:=by rw[<-F];simp only[Int.mul_assoc,Int.mul_comm,Int.mul_left_comm]
 have M:b.n*a.d*(j*k)=(b.n*k)*1680:=by rw[<-B];simp only[Int.mul_assoc,Int.mul_comm,Int.mul_left_comm]
 have l1:a.n*b.d<b.n*a.d↔a.n*j<b.n*k:=by
  rw[<-Int.mul_lt_mul_right pc,G,M];omega
 have U:b.n*a.d<a.n*b.d↔b.n*k<a.n*j:=by
  rw[<-Int.mul_lt_mul_right pc,G,M];omega
 unfold fI
 simp only[l1,U]
def tK(t:aw):List Int:=[bp t.start,t.part,num t.aR,t.aR.step,bp t.length]
def tS:List Bool:=[true,false,false,false,true]
def ku(t:aw):Prop:=bI t.start/\(0<=t.part/\t.part<=1000000)/\bR t.aR/\bI t.length
def ZC{a b:aw}(N:ku a)(O:ku b):Ft (a,b,())=some (ju tS tK a b):=by
 obtain⟨B,U,j,F⟩:=N
 obtain⟨G,Y,k,M⟩:=O
 have Z:=rj j
 have aa:=rj k
 have ab:=j.1
 have ad:=k.1
 have e:∀{p:aP},bR p->wB p=some (num p):=λ{p} h=>by
  unfold wB
  rw[pH,if_pos h,af]
 unfold Ft
 dsimp only
 rw[wV B.1 G.1,af,wV F.1 M.1,af,aC (by omega),e j,af,e k,af,aC (by omega),aC (by omega),xV _ (by simp),af,x8 B G,x8 F M]
 rfl
def rD:(List aw×Unit)->Option (List aw):=rU (λ_=>ku) (λ_=>ju tS tK)
def AI:(List aq×List (Int×Int))->Option (List aq):=rU oh (λat_=>cr (nK at_))
def uP(x y:Int):pJ (x,y)=some (fI x y):=by
 unfold pJ zm fI
 dsimp only
 rw[af,af,aj (by simp),aj (by simp)]
 simp only[vq,ek]
 split
 ·rfl
 split<;>rfl
def nv(w:Written):List Int:=[bp w.start,w.bc,num w.aR,w.id]
def uE:List Bool:=[true,false,false,true]
def mg(w:Written):Prop:=bI w.start/\(0<=w.bc/\w.bc<=1000000)/\bR w.aR
def aaP{a b:Written}(G:mg a)(M:mg b):EK (a,b)=some (ju uE nv a b):=by
 obtain⟨j,N,k⟩:=G
 obtain⟨B,O,F⟩:=M
 have U:=rj k
 have Y:=rj F
 unfold EK
 dsimp only
 rw[wV j.1 B.1,af,pH,if_pos k,af,pH,if_pos F,af]
 dsimp only
 rw[aC (by omega),aC (by omega),uP,af,xV _ (by simp),af,x8 j B,Ir]
 rfl
open Classical in
def rE:(List (Int×Written)×Unit)->Option (List Written):=λa=>
 if(∀p∈a.1,mg p.2)/\gr (ju uE nv) (a.1.map (·.2))/\a.1.length<=1000000000 then some (fX (ju uE nv) (a.1.map (·.2)))else none
def ji(xs:List Int):List Int:=xs.mergeSort λa b=>decide (a<=b)
def wA(m:List (Int×Bool)):Option (List Int):=
 ae (m.all (λp=>ai p.1)&&leI (m.length:Int) 1000000000) (some (ji (m.map (·.1))))
end Go.Proofs.YthhlipkkjippfaaGreatDoor
namespace Go.Proofs
open Go.Shelf
def Tryz.DQ:Go.Shelf.Ren:=⟨λ|7=>206|10=>276|n=>n,λ|23=>54|26=>3|3=>4|28=>208|0=>0|27=>207|33=>189|4=>4|n=>n,λ|n=>n⟩
def Tryz.Kk:Go.Proofs.SlLaysZI.n7 Tryz.prog Tryz.DQ:={
 mixed:=by kernel_rfl
 f7:=⟨Tryz.f206.name,by decide,Tryz.func206.trans (ea some (by kernel_rfl))⟩
 f10:=⟨Tryz.f276.name,by decide,Tryz.func276.trans (ea some (by kernel_rfl))⟩
 t0:=Tryz.underlying0
 a0:=Tryz.isAgg0
 z0:=Tryz.sizeOf0
 v0:=Tryz.zeroValue0
 t4:=Tryz.underlying4
 a4:=Tryz.isAgg4
 z4:=Tryz.sizeOf4
 v4:=Tryz.zeroValue4
 t23:=Tryz.underlying54
 a23:=Tryz.isAgg54
 z23:=Tryz.sizeOf54
 v23:=Tryz.zeroValue54
 t26:=Tryz.underlying3
 a26:=Tryz.isAgg3
 z26:=Tryz.sizeOf3
 v26:=Tryz.zeroValue3
 t27:=Tryz.underlying207
 a27:=Tryz.isAgg207
 z27:=Tryz.sizeOf207
 v27:=Tryz.zeroValue207
 t28:=Tryz.underlying208
 a28:=Tryz.isAgg208
 z28:=Tryz.sizeOf208
 v28:=Tryz.zeroValue208
 t33:=Tryz.underlying189
 a33:=Tryz.isAgg189
 z33:=Tryz.sizeOf189
 v33:=Tryz.zeroValue189}
def Tryz.Nu:Go.Shelf.Ren:=⟨λ|6=>205|8=>274|9=>275|11=>303|13=>161|12=>304|23=>249|24=>250|14=>324|15=>325|16=>326|17=>327|18=>328|19=>329|20=>330|21=>331|22=>332|25=>338|26=>288|27=>289|28=>339|29=>340|30=>260|31=>342|n=>n,λ|26=>3|28=>208|24=>37|0=>0|3=>3|37=>234|48=>290|50=>292|4=>4|40=>284|39=>283|45=>221|5=>5|9=>9|51=>311|55=>315|57=>327|58=>309|33=>189|n=>n,λ|n=>n⟩
def Tryz.Zd:Go.Proofs.SlLaysZI.n6 Tryz.prog Tryz.Nu:={
 mixed:=by kernel_rfl
 f6:=⟨Tryz.f205.name,by decide,Tryz.func205.trans (ea some (by kernel_rfl))⟩
 f8:=⟨Tryz.f274.name,by decide,Tryz.func274.trans (ea some (by kernel_rfl))⟩
 f11:=⟨Tryz.f303.name,by decide,Tryz.func303.trans (ea some (by kernel_rfl))⟩
 t0:=Tryz.underlying0
 a0:=Tryz.isAgg0
 z0:=Tryz.sizeOf0
 v0:=Tryz.zeroValue0
 t24:=Tryz.underlying37
 a24:=Tryz.isAgg37
 z24:=Tryz.sizeOf37
 v24:=Tryz.zeroValue37
 t26:=Tryz.underlying3
 a26:=Tryz.isAgg3
 z26:=Tryz.sizeOf3
 v26:=Tryz.zeroValue3
 t28:=Tryz.underlying208
 a28:=Tryz.isAgg208
 z28:=Tryz.sizeOf208
 v28:=Tryz.zeroValue208
 i26:=by kernel_rfl}
def Tryz.Y6:Go.Shelf.Ren:=⟨λ|5=>275|8=>161|7=>304|19=>249|20=>250|10=>324|11=>325|12=>326|13=>327|14=>328|15=>329|16=>330|17=>331|18=>332|30=>338|31=>288|32=>289|33=>339|34=>340|35=>260|40=>342|n=>n,λ|23=>37|25=>3|3=>3|32=>234|22=>37|0=>0|44=>290|46=>292|4=>4|36=>284|35=>283|41=>221|5=>5|9=>9|53=>311|57=>315|63=>327|64=>309|n=>n,λ|n=>n⟩
def Tryz.sortInt:Go.Proofs.SlLaysM.n5 Tryz.prog Tryz.Y6:={
 mixed:=by kernel_rfl
 f5:=⟨Tryz.f275.name,by decide,Tryz.func275.trans (ea some (by kernel_rfl))⟩
 f7:=⟨Tryz.f304.name,by decide,Tryz.func304.trans (ea some (by kernel_rfl))⟩
 f8:=Tryz.func161.trans (ea some (by kernel_rfl))
 f10:=⟨Tryz.f324.name,by decide,Tryz.func324.trans (ea some (by kernel_rfl))⟩
 f11:=⟨Tryz.f325.name,by decide,Tryz.func325.trans (ea some (by kernel_rfl))⟩
 f12:=⟨Tryz.f326.name,by decide,Tryz.func326.trans (ea some (by kernel_rfl))⟩
 f13:=⟨Tryz.f327.name,by decide,Tryz.func327.trans (ea some (by kernel_rfl))⟩
 f14:=⟨Tryz.f328.name,by decide,Tryz.func328.trans (ea some (by kernel_rfl))⟩
 f15:=⟨Tryz.f329.name,by decide,Tryz.func329.trans (ea some (by kernel_rfl))⟩
 f16:=⟨Tryz.f330.name,by decide,Tryz.func330.trans (ea some (by kernel_rfl))⟩
 f17:=⟨Tryz.f331.name,by decide,Tryz.func331.trans (ea some (by kernel_rfl))⟩
 f18:=⟨Tryz.f332.name,by decide,Tryz.func332.trans (ea some (by kernel_rfl))⟩
 f19:=Tryz.func249.trans (ea some (by kernel_rfl))
 f20:=Tryz.func250.trans (ea some (by kernel_rfl))
 f30:=⟨Tryz.f338.name,by decide,Tryz.func338.trans (ea some (by kernel_rfl))⟩
 f31:=Tryz.func288.trans (ea some (by kernel_rfl))
 f32:=Tryz.func289.trans (ea some (by kernel_rfl))
 f33:=⟨Tryz.f339.name,by decide,Tryz.func339.trans (ea some (by kernel_rfl))⟩
 f34:=⟨Tryz.f340.name,by decide,Tryz.func340.trans (ea some (by kernel_rfl))⟩
 f35:=⟨Tryz.f260.name,by decide,Tryz.func260.trans (ea some (by kernel_rfl))⟩
 f40:=⟨Tryz.f342.name,by decide,Tryz.func342.trans (ea some (by kernel_rfl))⟩
 t0:=Tryz.underlying0
 a0:=Tryz.isAgg0
 z0:=Tryz.sizeOf0
 v0:=Tryz.zeroValue0
 t3:=Tryz.underlying3
 a3:=Tryz.isAgg3
 z3:=Tryz.sizeOf3
 v3:=Tryz.zeroValue3
 t4:=Tryz.underlying4
 a4:=Tryz.isAgg4
 z4:=Tryz.sizeOf4
 v4:=Tryz.zeroValue4
 t5:=Tryz.underlying5
 a5:=Tryz.isAgg5
 z5:=Tryz.sizeOf5
 v5:=Tryz.zeroValue5
 t9:=Tryz.underlying9
 a9:=Tryz.isAgg9
 z9:=Tryz.sizeOf9
 v9:=Tryz.zeroValue9
 t22:=Tryz.underlying37
 a22:=Tryz.isAgg37
 z22:=Tryz.sizeOf37
 v22:=Tryz.zeroValue37
 t23:=Tryz.underlying37
 a23:=Tryz.isAgg37
 z23:=Tryz.sizeOf37
 v23:=Tryz.zeroValue37
 t25:=Tryz.underlying3
 a25:=Tryz.isAgg3
 z25:=Tryz.sizeOf3
 v25:=Tryz.zeroValue3
 t32:=Tryz.underlying234
 a32:=Tryz.isAgg234
 z32:=Tryz.sizeOf234
 v32:=Tryz.zeroValue234
 t35:=Tryz.underlying283
 a35:=Tryz.isAgg283
 z35:=Tryz.sizeOf283
 v35:=Tryz.zeroValue283
 t36:=Tryz.underlying284
 a36:=Tryz.isAgg284
 z36:=Tryz.sizeOf284
 v36:=Tryz.zeroValue284
 t41:=Tryz.underlying221
 a41:=Tryz.isAgg221
 z41:=Tryz.sizeOf221
 v41:=Tryz.zeroValue221
 t44:=Tryz.underlying290
 a44:=Tryz.isAgg290
 z44:=Tryz.sizeOf290
 v44:=Tryz.zeroValue290
 t46:=Tryz.underlying292
 a46:=Tryz.isAgg292
 z46:=Tryz.sizeOf292
 v46:=Tryz.zeroValue292
 t53:=Tryz.underlying311
 a53:=Tryz.isAgg311
 z53:=Tryz.sizeOf311
 v53:=Tryz.zeroValue311
 t57:=Tryz.underlying315
 a57:=Tryz.isAgg315
 z57:=Tryz.sizeOf315
 v57:=Tryz.zeroValue315
 t63:=Tryz.underlying327
 a63:=Tryz.isAgg327
 z63:=Tryz.sizeOf327
 v63:=Tryz.zeroValue327
 t64:=Tryz.underlying309
 a64:=Tryz.isAgg309
 z64:=Tryz.sizeOf309
 v64:=Tryz.zeroValue309}
end Go.Proofs
namespace Go.Proofs.YthhlipkkjippfaaGreatDoor
open Go Go.ag bG
open Go.Maps Go.Sort Go.Shelf Go.RowKit
set_option maxRecDepth 10000
@[reducible] def lU:mh:=⟨False⟩
attribute [local instance] bV lU
def R0:Value->Option (DataW Unit×List MemPlace):=λ_=>some (.lit (.bool true),[])
def Ve{w:World}{b G:Nat}{j:Array MapEntry}{xs:List Int}(M:dL w.heap[b]? (j,G))(U:j.size=xs.length)(N:∀(i:Nat)(e:MapEntry) x,j[i]?=some e->xs[i]?=some x->e.key = .int .i64 x)(aa:∀x∈xs,-9223372036854775808<=x/\x<=9223372036854775807)(ad:xs.length<=1000000000) :
  ∃D0:DataW Unit,w.ownsMap Tryz.prog 3 R0 b xs.length D0/\(intKeys D0).Perm xs/\Maps.size D0=xs.length:=by
 have ab:∀x∈xs,(Lit.int .i64 x).wf=true:=λx k=>WalkArith.wf_i64 (by have:=aa x k;omega)
 have Z:∀e∈j.toList,∃x∈xs,e.key = .int .i64 x:=by
  intro e B
  obtain⟨i,hi,rfl⟩:=hA.1 B
  have Y:i<j.size:=by simpa using hi
  have k:xs[i]?=some xs[i]:=c4 (by omega)
  exact⟨_,dn k,N i _ _ (by simp[Y]) k⟩
 have O:∀e∈j.toList,∀x∈xs,e.key = .int .i64 x->WideElems.rd Tryz.prog 3 R0 e=some (.int .i64 x,.lit (.bool true)):=by
  intro e B x k F
  simp[WideElems.rd,F,keyOf_int_mk Tryz.underlying3 (ab x k),R0]
 refine⟨_,⟨j,G,M.1,⟨by rw[U];unfold maxLen;omega,M.2,λe B=>?_⟩,by omega,rfl⟩,?_,?_⟩
 ·obtain⟨x,k,F⟩:=Z e B
  exact⟨_,O e B x k F⟩
 ·show(((j.toList.map (WideElems.rg Tryz.prog 3 R0)).foldr DataW.insert []).map λp=>Go.intOf p.1).Perm xs
  refine((WideShapes.sorted_perm _).map _).trans ?_
  have:(j.toList.map (WideElems.rg Tryz.prog 3 R0)).map (λp=>Go.intOf p.1)=xs:=by
   apply ie
   intro i
   rw[e0,e0]
   by_cases hi:i<j.size
   ·have B:j.toList[i]?=some j[i]:=by simp[hi]
    have k:xs[i]?=some xs[i]:=c4 (by omega)
    have F:=N i j[i] xs[i] (by simp[hi]) k
    have:=O j[i] (dn B) _ (dn k) F
    rw[B,k]
    simp[WideElems.rg,this,Go.intOf]
   rw[hS (by simp;omega),hS (by omega)];rfl
  rw[this]
 show((j.toList.map (WideElems.rg Tryz.prog 3 R0)).foldr DataW.insert []).length=xs.length
 rw[(WideShapes.sorted_perm _).length_eq];simp[U]
def Y5{xs ys:List Int}(h:xs.Perm ys):ji xs=ji ys:=mergeSort_of_perm_i h
def YD{w:World}{I:av}{B g:Nat}{cur:Array Value}{e:TypeId}{Y:Nat×Nat}(F:c8 w I)(O:I.dJ g)(ab:B<=g)(aa:w.heap[g]?=some (.cells cur e Y)) :
  c8 w (I.dr g cur.toList)/\fi B I (I.dr g cur.toList):=by
 have G:∀b,b≠g->(I.dr g cur.toList).cell b=I.cell b:=λb k=>by funext o;simp[av.dr,k]
 have N:I.le (I.dr g cur.toList):=⟨λb o v j=>by
  have k:b≠g:=by rintro rfl;rw[O.1 o]at j;cases j
  rw[G b k];exact j,λ_ _ h=>h,λ_ h=>h⟩
 refine⟨⟨λb o v j=>?_,λb U j=>F.mp b U j,F.df,λg d Z=>(F.c7 g d Z).mono N⟩,.of N (λb k=>G b (by omega)) (λ_ _=>rfl)⟩
 by_cases k:b=g
 ·subst k
  simp only[av.dr,hQ]at j
  cases M:cur[o]? with
  |none=>simp[M,O.1 o]at j
  |some x=>simp[M]at j;subst j;simp[World.cell?,aa,M]
 rw[G b k]at j;exact F.cell b o v j
def Ze(m:Nat):AnyZI.SortsIn Tryz.prog Tryz.Nu Fence.wide m:=
 ⟨λjt off j G W k B F=>w1.2 (AnyM.slices_Sort_int Tryz.sortInt jt off j G W k B F),
  λp j W=>w1.2 (AnyM.slices_Sort_int_none Tryz.sortInt p j W)⟩
def Sw(xs:List Int)(vs:List D)(aX:∀x∈xs,-9223372036854775808<=x/\x<=9223372036854775807)(aQ:xs.length<=1000000000) :
  eO Tryz.prog 205 [.aB 276 [.box (.map (xs.map enc) vs)]] (.slice 1 ((ji xs).map enc)):=by
 intro w I aq F ak aU
 obtain⟨v,rfl⟩:∃v,aq = #[v]:=by
  match aq,ak with
  | ⟨[a]⟩,_=>exact⟨a,rfl⟩
 have aD:=aU 0 v _ rfl rfl
 obtain⟨p,rfl,aA⟩:∃p,v = .func (.func 276) #[] #[p]/\Rd I p (.box (.map (xs.map enc) vs)):=by
  generalize xs.map (enc:Int->D)=ao at aD⊢
  cases aD with
  |aB f ps ds N Y=>
   match ps,N with
   | ⟨[p]⟩,_=>exact⟨p,rfl,Y 0 p _ rfl rfl⟩
 obtain⟨b,M,rfl,ai,af⟩:∃b M,p = .pointer (some ⟨b,0,none⟩)/\w.cell? ⟨b,0,none⟩=some (.map M)/\Rd I (.map M) (.map (xs.map enc) vs):=by
  generalize xs.map (enc:Int->D)=ao at aA⊢
  cases aA with
  |box b d val N Y ah=>
   have au:=Y 0 (by simp[D.cells])
   have ad:=ah 0 _ rfl
   obtain⟨M,aR⟩:∃M,val 0 = .map M:=by
    generalize val 0=z at ad
    cases ad<;>exact⟨_,rfl⟩
   rw[aR]at au ad
   exact⟨b,M,rfl,F.cell _ _ _ au,ad⟩
 have aw:b<w.heap.size:=World.block_lt_of_cell? w ⟨b,0,none⟩ ai
 have aF:∀(S:List Int->Prop)(ab:Nat),ab<=1000000000->SeqGives Fence.wide 2 Tryz.prog 276 #[.pointer (some ⟨b,0,none⟩)] encZ S ab w->(∀j,S j->ji j=ji xs) ->
   Calls Tryz.prog 205 #[.func (.func 276) #[] #[.pointer (some ⟨b,0,none⟩)]] w λe w'=>∃v J,e = .returned v/\dz w.heap.size w w'/\fi w.heap.size I J/\c8 w' J/\Rd J v (.slice 1 ((ji xs).map enc)):=by
  intro S ab bc aV aK
  have ar:=AnyZI.sorted_in Tryz.Zd Fence.wide 5 trivial trivial trivial trivial rfl (by omega) (Ze _) (enters_of Tryz.func275 (by kernel_rfl) rfl) 276 #[.pointer (some ⟨b,0,none⟩)] trivial (enters_of Tryz.func276 (by kernel_rfl) rfl) S ab (by unfold maxLen;omega) (by omega) w aV
  change CallsIn _ _ Tryz.prog 205 _ _ _ at ar
  refine((w1 (n:=5)).1 ar).mono ?_
  rintro e w' ⟨v,j,rfl,aL,aa,_,aM⟩
  have an:=aK j aL
  unfold ji at an
  have ak:(ji xs).length=xs.length:=by unfold ji;rw[(vt _ _).length_eq]
  change j.mergeSort leI=ji xs at an
  rw[an]at aa
  generalize ji xs=ys at aa ak
  obtain⟨n,aa⟩:∃n,w'.ownsRow w.heap.size 3 1 v n (ys.map encZ):=⟨_,aa⟩
  have Z:dz w.heap.size w w':=dz.of aM λh=>h.elim
  have aC:c8 w' I:=⟨λb o u O=>(na (w:=w) (a:=⟨b,o,none⟩) (Z.block b (F.lt O))).trans (F.cell b o u O),λb G O=>by
   exact dL.to (Z.block b (F.mR O)) (F.mp b G O),λb ae=>(Z.block b (F.j7 ae)).trans (F.df b ae),F.c7⟩
  obtain⟨al,⟨rfl,aJ⟩| ⟨g,ba,cur,rfl,ax,aj,aS,aN,bd,aW⟩⟩:=aa
  ·have:ys=[]:=by simpa [aJ]using al
   subst this
   exact⟨_,I,rfl,Z,fi.refl _ _,aC,.jK _ _ _ (j5 _)⟩
  have aT:=F.dJ ax
  obtain⟨aZ,a1⟩:=YD (B:=w.heap.size) aC aT ax aj
  refine⟨_,_,rfl,Z,a1,aZ,.slice _ _ _ _ _ _ (λk=>(cur[k]?).getD undef) (by simpa using al) aS aN (λd ae=>?_) (λk ay=>?_) (λk x U=>?_)⟩
  ·obtain⟨y,_,rfl⟩:=hz.1 ae
   simp[qD,D.cells,D.one]
  ·have:cur[k]?=some (cur[k]'(by omega)):=e8 (by omega)
   simp[av.dr,this]
  have aP:flat (ys.map (enc:Int->D))=ys.map enc:=by
   unfold flat
   rw[ta]
   simp[qD,D.cells]
   rw[<-List.map_eq_flatMap]
   exact hP λz _=>(qD z).symm
  rw[aP]at U
  have ay:k<ys.length:=by have:=(da.1 U).1;simpa using this
  have aE:ys[k]?=some ys[k]:=c4 ay
  have aY:x=enc ys[k]:=by simpa [aE]using U.symm
  have O:cur[k]?=some (encZ ys[k]):=by
   have N:(cur.toList.take (n*1))[k]?=(ys.map encZ)[k]?:=by rw[aW]
   rw[List.getElem?_take_of_lt (by simp at al;omega)]at N
   simpa [aE]using N
  rw[O,aY,qD]
  exact .int _ _
 cases M with
 |none=>
  have U:xs=[]:=by
   generalize az:xs.map (enc:Int->D)=ao at af
   cases af
   simpa using az
  subst U
  exact aF (λj=>j=[]) 0 (by omega) (AnyZI.keys_gives_nil (ρ:=Tryz.DQ) {Tryz.Kk with} Fence.wide _ trivial rfl b w aw ai) (λj h=>by rw[h])
 |some ag=>
  obtain⟨⟨G,aG⟩,N,Y,ah⟩:∃G:ME,I.mp ag=some G/\G.1.size=(xs.map (enc:Int->D)).length/\∀(i:Nat)(e:MapEntry)(d:D),G.1[i]?=some e->(xs.map (enc:Int->D))[i]?=some d->Rd I e.key d:=by
   generalize az:xs.map (enc:Int->D)=ao at af
   cases af with
   |map _ G _ _ a6 a7 bf a8 bg=>exact⟨G,a6,a7,a8⟩
  have aj:=F.mp ag (G,aG) N
  obtain⟨D0,aH,aI,bb⟩:=Ve (xs:=xs) aj (by simpa using Y) (λi e x aO U=>by
   have:=ah i e (enc x) aO (by simp[U])
   rw[qD]at this
   generalize e.key=z at this
   cases this;rfl) aX aQ
  exact aF (λj=>j.Perm (intKeys D0)) (Maps.size D0) (by omega) (AnyZI.keys_gives (ρ:=Tryz.DQ) {Tryz.Kk with} Fence.wide _ trivial rfl (by omega) b ag xs.length D0 w aw ai aH) (λj h=>Y5 (h.trans aI))
open Go.Sy
def xY:Sy.Callee:=⟨205,[.aB 276 (.box (.map (.int .i64) .bool))],[.list (.int .i64)],wA⟩
def U9:gM Tryz.prog xY:=
 ⟨Enters.of Tryz.func205 (by decide),λa r h=>(by
  change List (Int×Bool)at a
  change List Int at r
  have h:wA a=some r:=h
  unfold wA ae at h
  split at h
  ·rename_i j
   injection h with h;subst h
   simp only[dd,dT,ek]at j
   obtain⟨B,M⟩:=j
   have:=Sw (a.map (·.1)) (a.map λp=>D.bool p.2) (λx G=>by
    obtain⟨p,F,rfl⟩:=hz.1 G
    exact B p F) (by rw[hM];omega)
   have k:(a.map (·.1)).map (enc:Int->D)=a.map λp=>D.int .i64 p.1:=by rw[k6];rfl
   rw[k]at this
   exact this
  ·cases h),
  λt h=>cE (dT.1 (rfl:xY.args.all dG=true) t h),λt h=>cE (dT.1 (rfl:xY.res.all dG=true) t h)⟩
def Rm:Bk:=⟨xY,U9⟩
end Go.Proofs.YthhlipkkjippfaaGreatDoor
namespace Go.Proofs
open Go.Shelf
def Tryz.Y7:Go.Shelf.Ren:=⟨λ|6=>272|15=>161|14=>302|28=>249|29=>250|20=>316|21=>317|22=>318|23=>319|24=>320|25=>321|26=>322|27=>323|46=>335|47=>288|48=>289|49=>336|50=>337|57=>341|n=>n,λ|22=>24|24=>126|25=>302|3=>3|39=>234|0=>0|53=>290|55=>292|4=>4|46=>284|45=>283|50=>221|5=>5|9=>9|66=>311|70=>315|76=>327|77=>309|n=>n,λ|n=>n⟩
def Tryz.Nn:Go.Proofs.SlLaysF0.n6 Tryz.prog Tryz.Y7:={
 mixed:=by kernel_rfl
 f6:=⟨Tryz.f272.name,by decide,Tryz.func272.trans (ea some (by kernel_rfl))⟩
 f14:=⟨Tryz.f302.name,by decide,Tryz.func302.trans (ea some (by kernel_rfl))⟩
 f15:=Tryz.func161.trans (ea some (by kernel_rfl))
 f20:=⟨Tryz.f316.name,by decide,Tryz.func316.trans (ea some (by kernel_rfl))⟩
 f21:=⟨Tryz.f317.name,by decide,Tryz.func317.trans (ea some (by kernel_rfl))⟩
 f22:=⟨Tryz.f318.name,by decide,Tryz.func318.trans (ea some (by kernel_rfl))⟩
 f23:=⟨Tryz.f319.name,by decide,Tryz.func319.trans (ea some (by kernel_rfl))⟩
 f24:=⟨Tryz.f320.name,by decide,Tryz.func320.trans (ea some (by kernel_rfl))⟩
 f25:=⟨Tryz.f321.name,by decide,Tryz.func321.trans (ea some (by kernel_rfl))⟩
 f26:=⟨Tryz.f322.name,by decide,Tryz.func322.trans (ea some (by kernel_rfl))⟩
 f27:=⟨Tryz.f323.name,by decide,Tryz.func323.trans (ea some (by kernel_rfl))⟩
 f28:=Tryz.func249.trans (ea some (by kernel_rfl))
 f29:=Tryz.func250.trans (ea some (by kernel_rfl))
 f46:=⟨Tryz.f335.name,by decide,Tryz.func335.trans (ea some (by kernel_rfl))⟩
 f47:=Tryz.func288.trans (ea some (by kernel_rfl))
 f48:=Tryz.func289.trans (ea some (by kernel_rfl))
 f49:=⟨Tryz.f336.name,by decide,Tryz.func336.trans (ea some (by kernel_rfl))⟩
 f50:=⟨Tryz.f337.name,by decide,Tryz.func337.trans (ea some (by kernel_rfl))⟩
 f57:=⟨Tryz.f341.name,by decide,Tryz.func341.trans (ea some (by kernel_rfl))⟩
 t0:=Tryz.underlying0
 a0:=Tryz.isAgg0
 z0:=Tryz.sizeOf0
 v0:=Tryz.zeroValue0
 t3:=Tryz.underlying3
 a3:=Tryz.isAgg3
 z3:=Tryz.sizeOf3
 v3:=Tryz.zeroValue3
 t4:=Tryz.underlying4
 a4:=Tryz.isAgg4
 z4:=Tryz.sizeOf4
 v4:=Tryz.zeroValue4
 t5:=Tryz.underlying5
 a5:=Tryz.isAgg5
 z5:=Tryz.sizeOf5
 v5:=Tryz.zeroValue5
 t9:=Tryz.underlying9
 a9:=Tryz.isAgg9
 z9:=Tryz.sizeOf9
 v9:=Tryz.zeroValue9
 t22:=Tryz.underlying24
 a22:=Tryz.isAgg24
 z22:=Tryz.sizeOf24
 v22:=Tryz.zeroValue24
 t25:=Tryz.underlying302
 a25:=Tryz.isAgg302
 z25:=Tryz.sizeOf302
 v25:=Tryz.zeroValue302
 t39:=Tryz.underlying234
 a39:=Tryz.isAgg234
 z39:=Tryz.sizeOf234
 v39:=Tryz.zeroValue234
 t45:=Tryz.underlying283
 a45:=Tryz.isAgg283
 z45:=Tryz.sizeOf283
 v45:=Tryz.zeroValue283
 t46:=Tryz.underlying284
 a46:=Tryz.isAgg284
 z46:=Tryz.sizeOf284
 v46:=Tryz.zeroValue284
 t50:=Tryz.underlying221
 a50:=Tryz.isAgg221
 z50:=Tryz.sizeOf221
 v50:=Tryz.zeroValue221
 t53:=Tryz.underlying290
 a53:=Tryz.isAgg290
 z53:=Tryz.sizeOf290
 v53:=Tryz.zeroValue290
 t55:=Tryz.underlying292
 a55:=Tryz.isAgg292
 z55:=Tryz.sizeOf292
 v55:=Tryz.zeroValue292
 t66:=Tryz.underlying311
 a66:=Tryz.isAgg311
 z66:=Tryz.sizeOf311
 v66:=Tryz.zeroValue311
 t70:=Tryz.underlying315
 a70:=Tryz.isAgg315
 z70:=Tryz.sizeOf315
 v70:=Tryz.zeroValue315
 t76:=Tryz.underlying327
 a76:=Tryz.isAgg327
 z76:=Tryz.sizeOf327
 v76:=Tryz.zeroValue327
 t77:=Tryz.underlying309
 a77:=Tryz.isAgg309
 z77:=Tryz.sizeOf309
 v77:=Tryz.zeroValue309}
def Tryz.Y9:Go.Shelf.Ren:=⟨λ|6=>75|15=>161|14=>160|28=>249|29=>250|20=>241|21=>242|22=>243|23=>244|24=>245|25=>246|26=>247|27=>248|46=>287|47=>288|48=>289|49=>290|50=>291|57=>311|n=>n,λ|22=>44|24=>62|25=>160|3=>3|39=>234|0=>0|53=>290|55=>292|4=>4|46=>284|45=>283|50=>221|5=>5|9=>9|66=>311|70=>315|76=>327|77=>309|n=>n,λ|n=>n⟩
theorem Tryz.eM:Go.Proofs.SlLaysF0.n6 Tryz.prog Tryz.Y9:={
 mixed:=by kernel_rfl
 f6:=⟨Tryz.f75.name,by decide,Tryz.func75.trans (ea some (by kernel_rfl))⟩
 f14:=⟨Tryz.f160.name,by decide,Tryz.func160.trans (ea some (by kernel_rfl))⟩
 f15:=Tryz.func161.trans (ea some (by kernel_rfl))
 f20:=⟨Tryz.f241.name,by decide,Tryz.func241.trans (ea some (by kernel_rfl))⟩
 f21:=⟨Tryz.f242.name,by decide,Tryz.func242.trans (ea some (by kernel_rfl))⟩
 f22:=⟨Tryz.f243.name,by decide,Tryz.func243.trans (ea some (by kernel_rfl))⟩
 f23:=⟨Tryz.f244.name,by decide,Tryz.func244.trans (ea some (by kernel_rfl))⟩
 f24:=⟨Tryz.f245.name,by decide,Tryz.func245.trans (ea some (by kernel_rfl))⟩
 f25:=⟨Tryz.f246.name,by decide,Tryz.func246.trans (ea some (by kernel_rfl))⟩
 f26:=⟨Tryz.f247.name,by decide,Tryz.func247.trans (ea some (by kernel_rfl))⟩
 f27:=⟨Tryz.f248.name,by decide,Tryz.func248.trans (ea some (by kernel_rfl))⟩
 f28:=Tryz.func249.trans (ea some (by kernel_rfl))
 f29:=Tryz.func250.trans (ea some (by kernel_rfl))
 f46:=⟨Tryz.f287.name,by decide,Tryz.func287.trans (ea some (by kernel_rfl))⟩
 f47:=Tryz.func288.trans (ea some (by kernel_rfl))
 f48:=Tryz.func289.trans (ea some (by kernel_rfl))
 f49:=⟨Tryz.f290.name,by decide,Tryz.func290.trans (ea some (by kernel_rfl))⟩
 f50:=⟨Tryz.f291.name,by decide,Tryz.func291.trans (ea some (by kernel_rfl))⟩
 f57:=⟨Tryz.f311.name,by decide,Tryz.func311.trans (ea some (by kernel_rfl))⟩
 t0:=Tryz.underlying0
 a0:=Tryz.isAgg0
 z0:=Tryz.sizeOf0
 v0:=Tryz.zeroValue0
 t3:=Tryz.underlying3
 a3:=Tryz.isAgg3
 z3:=Tryz.sizeOf3
 v3:=Tryz.zeroValue3
 t4:=Tryz.underlying4
 a4:=Tryz.isAgg4
 z4:=Tryz.sizeOf4
 v4:=Tryz.zeroValue4
 t5:=Tryz.underlying5
 a5:=Tryz.isAgg5
 z5:=Tryz.sizeOf5
 v5:=Tryz.zeroValue5
 t9:=Tryz.underlying9
 a9:=Tryz.isAgg9
 z9:=Tryz.sizeOf9
 v9:=Tryz.zeroValue9
 t22:=Tryz.underlying44
 a22:=Tryz.isAgg44
 z22:=Tryz.sizeOf44
 v22:=Tryz.zeroValue44
 t25:=Tryz.underlying160
 a25:=Tryz.isAgg160
 z25:=Tryz.sizeOf160
 v25:=Tryz.zeroValue160
 t39:=Tryz.underlying234
 a39:=Tryz.isAgg234
 z39:=Tryz.sizeOf234
 v39:=Tryz.zeroValue234
 t45:=Tryz.underlying283
 a45:=Tryz.isAgg283
 z45:=Tryz.sizeOf283
 v45:=Tryz.zeroValue283
 t46:=Tryz.underlying284
 a46:=Tryz.isAgg284
 z46:=Tryz.sizeOf284
 v46:=Tryz.zeroValue284
 t50:=Tryz.underlying221
 a50:=Tryz.isAgg221
 z50:=Tryz.sizeOf221
 v50:=Tryz.zeroValue221
 t53:=Tryz.underlying290
 a53:=Tryz.isAgg290
 z53:=Tryz.sizeOf290
 v53:=Tryz.zeroValue290
 t55:=Tryz.underlying292
 a55:=Tryz.isAgg292
 z55:=Tryz.sizeOf292
 v55:=Tryz.zeroValue292
 t66:=Tryz.underlying311
 a66:=Tryz.isAgg311
 z66:=Tryz.sizeOf311
 v66:=Tryz.zeroValue311
 t70:=Tryz.underlying315
 a70:=Tryz.isAgg315
 z70:=Tryz.sizeOf315
 v70:=Tryz.zeroValue315
 t76:=Tryz.underlying327
 a76:=Tryz.isAgg327
 z76:=Tryz.sizeOf327
 v76:=Tryz.zeroValue327
 t77:=Tryz.underlying309
 a77:=Tryz.isAgg309
 z77:=Tryz.sizeOf309
 v77:=Tryz.zeroValue309}
def Tryz.Za:Go.Shelf.Ren:=⟨λ|6=>189|15=>161|14=>263|28=>249|29=>250|20=>293|21=>294|22=>295|23=>296|24=>297|25=>298|26=>299|27=>300|46=>312|47=>288|48=>289|49=>313|50=>314|57=>334|n=>n,λ|22=>136|24=>170|25=>174|3=>3|39=>234|0=>0|53=>290|55=>292|4=>4|46=>284|45=>283|50=>221|5=>5|9=>9|66=>311|70=>315|76=>327|77=>309|n=>n,λ|n=>n⟩
def Tryz.Nr:Go.Proofs.SlLaysF0.n6 Tryz.prog Tryz.Za:={
 mixed:=by kernel_rfl
 f6:=⟨Tryz.f189.name,by decide,Tryz.func189.trans (ea some (by kernel_rfl))⟩
 f14:=⟨Tryz.f263.name,by decide,Tryz.func263.trans (ea some (by kernel_rfl))⟩
 f15:=Tryz.func161.trans (ea some (by kernel_rfl))
 f20:=⟨Tryz.f293.name,by decide,Tryz.func293.trans (ea some (by kernel_rfl))⟩
 f21:=⟨Tryz.f294.name,by decide,Tryz.func294.trans (ea some (by kernel_rfl))⟩
 f22:=⟨Tryz.f295.name,by decide,Tryz.func295.trans (ea some (by kernel_rfl))⟩
 f23:=⟨Tryz.f296.name,by decide,Tryz.func296.trans (ea some (by kernel_rfl))⟩
 f24:=⟨Tryz.f297.name,by decide,Tryz.func297.trans (ea some (by kernel_rfl))⟩
 f25:=⟨Tryz.f298.name,by decide,Tryz.func298.trans (ea some (by kernel_rfl))⟩
 f26:=⟨Tryz.f299.name,by decide,Tryz.func299.trans (ea some (by kernel_rfl))⟩
 f27:=⟨Tryz.f300.name,by decide,Tryz.func300.trans (ea some (by kernel_rfl))⟩
 f28:=Tryz.func249.trans (ea some (by kernel_rfl))
 f29:=Tryz.func250.trans (ea some (by kernel_rfl))
 f46:=⟨Tryz.f312.name,by decide,Tryz.func312.trans (ea some (by kernel_rfl))⟩
 f47:=Tryz.func288.trans (ea some (by kernel_rfl))
 f48:=Tryz.func289.trans (ea some (by kernel_rfl))
 f49:=⟨Tryz.f313.name,by decide,Tryz.func313.trans (ea some (by kernel_rfl))⟩
 f50:=⟨Tryz.f314.name,by decide,Tryz.func314.trans (ea some (by kernel_rfl))⟩
 f57:=⟨Tryz.f334.name,by decide,Tryz.func334.trans (ea some (by kernel_rfl))⟩
 t0:=Tryz.underlying0
 a0:=Tryz.isAgg0
 z0:=Tryz.sizeOf0
 v0:=Tryz.zeroValue0
 t3:=Tryz.underlying3
 a3:=Tryz.isAgg3
 z3:=Tryz.sizeOf3
 v3:=Tryz.zeroValue3
 t4:=Tryz.underlying4
 a4:=Tryz.isAgg4
 z4:=Tryz.sizeOf4
 v4:=Tryz.zeroValue4
 t5:=Tryz.underlying5
 a5:=Tryz.isAgg5
 z5:=Tryz.sizeOf5
 v5:=Tryz.zeroValue5
 t9:=Tryz.underlying9
 a9:=Tryz.isAgg9
 z9:=Tryz.sizeOf9
 v9:=Tryz.zeroValue9
 t22:=Tryz.underlying136
 a22:=Tryz.isAgg136
 z22:=Tryz.sizeOf136
 v22:=Tryz.zeroValue136
 t25:=Tryz.underlying174
 a25:=Tryz.isAgg174
 z25:=Tryz.sizeOf174
 v25:=Tryz.zeroValue174
 t39:=Tryz.underlying234
 a39:=Tryz.isAgg234
 z39:=Tryz.sizeOf234
 v39:=Tryz.zeroValue234
 t45:=Tryz.underlying283
 a45:=Tryz.isAgg283
 z45:=Tryz.sizeOf283
 v45:=Tryz.zeroValue283
 t46:=Tryz.underlying284
 a46:=Tryz.isAgg284
 z46:=Tryz.sizeOf284
 v46:=Tryz.zeroValue284
 t50:=Tryz.underlying221
 a50:=Tryz.isAgg221
 z50:=Tryz.sizeOf221
 v50:=Tryz.zeroValue221
 t53:=Tryz.underlying290
 a53:=Tryz.isAgg290
 z53:=Tryz.sizeOf290
 v53:=Tryz.zeroValue290
 t55:=Tryz.underlying292
 a55:=Tryz.isAgg292
 z55:=Tryz.sizeOf292
 v55:=Tryz.zeroValue292
 t66:=Tryz.underlying311
 a66:=Tryz.isAgg311
 z66:=Tryz.sizeOf311
 v66:=Tryz.zeroValue311
 t70:=Tryz.underlying315
 a70:=Tryz.isAgg315
 z70:=Tryz.sizeOf315
 v70:=Tryz.zeroValue315
 t76:=Tryz.underlying327
 a76:=Tryz.isAgg327
 z76:=Tryz.sizeOf327
 v76:=Tryz.zeroValue327
 t77:=Tryz.underlying309
 a77:=Tryz.isAgg309
 z77:=Tryz.sizeOf309
 v77:=Tryz.zeroValue309}
end Go.Proofs
namespace Go.Proofs.YthhlipkkjippfaaGreatDoor
open Go Go.ag Go.Sy bG Go.RowKit Go.Sort
attribute [local instance] bV lU
set_option maxRecDepth 10000
theorem G4(x:Written):aD.cells 16 x=[.int .i64 x.id,.int .i64 x.bc,.int .i64 x.bF,.int .i64 x.start.n,.int .i64 x.start.d,.int .i64 x.length.n,.int .i64 x.length.d,.int .i64 x.aR.step,.int .i64 x.aR.alter,.int .i64 x.aR.aZ]:=rfl
def aaT(x y:Written)(h:aD.cells 16 x=aD.cells 16 y):x=y:=by
 rw[G4,G4]at h
 obtain⟨j,G,M,⟨N,O⟩,⟨U,Y⟩,k,B,F⟩:=x
 obtain⟨Z,ae,af,⟨ag,ah⟩,⟨ai,aj⟩,aa,ab,ad⟩:=y
 simp only[q6,D.int.injEq,abk,and_true]at h
 obtain⟨rfl,rfl,rfl,rfl,rfl,rfl,rfl,rfl,rfl,rfl⟩:=h
 rfl
instance aa7:bG Written:=CH 16 (⟨0,0,0,⟨0,0⟩,⟨0,0⟩,⟨0,0,0⟩⟩:Written) aaT
theorem Ta(x:Written):enc x = .agg [.int .i64 x.id,.int .i64 x.bc,.int .i64 x.bF,.int .i64 x.start.n,.int .i64 x.start.d,.int .i64 x.length.n,.int .i64 x.length.d,.int .i64 x.aR.step,.int .i64 x.aR.alter,.int .i64 x.aR.aZ]:=rfl
theorem YW:bG.size Written=10:=rfl
theorem ZK:jj 136=some ⟨1,24,[.slice 10 []],.slice 170⟩:=rfl
theorem ZL:jj 170=some ⟨10,80,[.int .i64 0,.int .i64 0,.int .i64 0,.int .i64 0,.int .i64 0,.int .i64 0,.int .i64 0,.int .i64 0,.int .i64 0,.int .i64 0],.struct [(0,3),(1,3),(2,3),(3,58),(5,58),(7,60)]⟩:=rfl
theorem ZI:jj 176=some ⟨1,8,[.map [] []],.map 3 170⟩:=rfl
theorem ZJ:jj 180=some ⟨1,8,[.iB],.iH⟩:=rfl
theorem ZF:jj 174=some ⟨1,8,[.iB],.iH⟩:=rfl
theorem ZM:jj 194=some ⟨1,8,[.iB],.iH⟩:=rfl
attribute [local congr] aG.It
attribute [local simp] dC fB dg evalOp bE ag.get lq strip bH ag.after qB typed kZ holds du R.ok R.bad kf eB uC nc Gr xe Op.operands Call.operands dc cH eP cZ sy qu fq qy ng jd Nx Ny Nz NA qD IV Tc Tb Go.ag.sH IB Iz SS SQ SR Nc YY Ef VO bm D.cells T.fA D.one fP eQ ij gp setAt eV gV me jU lL bw cY jB gN jD jh ye arith fk qR qN ev kM rH TD.agg env cu List.map dU j8 qU lR mS mapOf sZ o5 fL Mc Md Me Mf Mg Mh Mi Mj IX Nd IC NB rV NC ND NF oj Bc gone unbox lJ kr kH kV IW IA Nb MZ Cu List.contains_cons List.contains_nil IP Ta YW NR NQ ZK ZL ZI ZJ ZF ZM
section
variable {aU gw:Code}{tm:Tm}{mm:List (Int×Written)}
def fz(j k LP B:AO)(zs:List Written):List AO:=[j,k,.var 136 [.row 5],LP,B,.row 170 10 (zs.map enc)]
def YG{F G:Nat->Value}{j B:Tm}{LP ah:AO}(N:LP = .loop 3 13 #[7] aU gw tm .ready none)(aw:ah = .loop 3 13 #[7] aU gw tm .busy none)(
   aC:∀(x:Written)(zs:List Written)(ae:AO)(ab:Nat->Value)(Z:Tm),(zs.length+1)*80<=140737488355328->(∃aK vs an,ae=AO.iter aK vs an)->∀(Y:Option Code->List AO->Prop),(∀ad,(∃v f,ad=AO.frame 8 v f)->Y none [.frame 0 F j,.frame 1 G B,.var 136 [.row 9],LP,.frame 4 ab Z,.dead,ae,.var 170 (bm (.d (enc x))),ad,.row 170 10 ((zs++[x]).map enc)]) ->
   ∀(R:bP)(w0:World)(I0:av)(vals:Nat->Value)(ft:Tm)(Q:Exit->St->Prop),(∀e af s2,nT e=some af->si s2 8 vals ft 3 3 13 #[7] aU gw tm af (Y af)->Q e s2) ->
    @aG _ R Tryz.prog w0 I0 13 aU ⟨ko [7] [.d (enc x)] tm,fz (.frame 0 F j) (.frame 1 G B) LP (.frame 4 ab Z) zs++[ae,.var 170 (bm (.d (enc x))),.frame 8 vals ft]⟩ (tD λs1=>∃s2,ag.Sub s1 s2/\s2.l[8]?=some (.frame 8 vals ft)/\s2.l[3]?=some LP/\@aG _ R Tryz.prog w0 I0 13 gw ⟨s2.t,s2.l.set 3 ah⟩ Q))(aA:mm.length*80<=140737488355328) :
  im Tryz.prog 190 [.aW 3,.d (.box (.map (mm.map kE) (mm.map vE)))] [.frame 0 F j,.frame 1 G B,.var 136 [.bu 10],LP] λu l'=>∃zs ab Z,zs.Perm (mm.map (·.2))/\l'=fz (.frame 0 F j) (.frame 1 G B) LP (.frame 4 ab Z) zs:=by
 have M:cn Tryz.prog (env []):=nN trivial
 refine im.of M (Enters.of Tryz.func190 (by decide)) Tryz.func190 rfl (by rw[Tryz.ntmps190];simp) λR aN w0 I0 vals ft Q ai=>?_
 rw[Tryz.ntmps190]
 simp only[List.length_cons,List.length_nil,List.cons_append,List.nil_append]at ai⊢
 simp only[iJ]
 refine aG.sub (s':=⟨[(0,.aW 3),(1,.d (.box (.map (mm.map kE) (mm.map vE))))],fz (.frame 0 F j) (.frame 1 G B) LP (.frame 4 vals ft) []⟩) (Sub.Hg (s:=⟨[(0,.aW 3),(1,.d (.box (.map (mm.map kE) (mm.map vE))))],[.frame 0 F j,.frame 1 G B,.var 136 [.bu 10],LP,.frame 4 vals ft]⟩) 2 0 170 10 rfl rfl) ?_
 refine aG.rS M none [0,6] λK aH=>?_
 simp[wT]
 refine dS (s':=⟨[(0,.aW 3),(6,.ptr 6 0)],fz (.frame 0 F j) (.frame 1 G B) LP (.frame 4 vals ft) []++[.iter (mm.map kE) (mm.map vE) []]⟩) (by first|rfl| (simp[fz];done)) (aH _ ?_)
 refine aG.block ?_
 refine aG.VA mm (λdone zs=>⟨[(0,.aW 3),(6,.ptr 6 0)],fz (.frame 0 F j) (.frame 1 G B) LP (.frame 4 vals ft) zs++[.iter (mm.map kE) (mm.map vE) done]⟩) (λzs e=>if zs.length<mm.length then some (.inl (zs++[e.2]):List Written⊕Unit)else none) [] (λout=>∃zs,out = .inl zs/\zs.Perm (mm.map (·.2))) ?_ (Sub.refl _) λdone zs K ay aD=>?_
 ·intro l ak
  refine⟨.inl (l.map (·.2)),?_,_,rfl,ak.map _⟩
  have:∀(l:List (Int×Written))(zs:List Written),zs.length+l.length<=mm.length->iterM (λzs e=>if zs.length<mm.length then some (.inl (zs++[e.2]):List Written⊕Unit)else none) l zs=some (.inl (zs++l.map (·.2))):=by
   intro l
   induction l with
   |nil=>intro zs _;simp[iterM]
   |cons e l aF=>
    intro zs U
    simp only[List.length_cons]at U
    simp only[iterM]
    rw[if_pos (by omega)]
    simp only
    rw[aF (zs++[e.2]) (by simp;omega)]
    simp
  simpa using this l [] (by simp[ak.length_eq])
 refine aG.VI M rfl rfl rfl rfl rfl rfl (by decide) (by decide) rfl rfl rfl rfl (λi aO vd az aE hi=>?_) λax=>?_
 ·obtain⟨⟨k,x⟩,aj,rfl,rfl⟩:=Vi az aE
  obtain⟨o,O,_,aa⟩:=aD i _ aj hi
  have al:zs.length<mm.length:=by
   by_cases h:zs.length<mm.length
   ·exact h
   simp[h]at O
  rw[if_pos al]at O
  injection O with O
  subst O
  have aa:=λs'=>aa s' _ rfl
  dsimp only at aa
  show aG _ _ _ _ _ ⟨[(0,.aW 3),(6,.ptr 6 0)],fz (.frame 0 F j) (.frame 1 G B) LP (.frame 4 vals ft) zs++[.iter (mm.map kE) (mm.map vE) (done++[i])]⟩ _
  refine aG.block ?_
  refine aG.rS M none [0,4,6] λK aI=>?_
  simp[uW,fz,U5,aaE,aj]
  refine dS (s':=⟨[(0,.aW 3),(4,.ptr 7 0),(6,.ptr 6 0)],fz (.frame 0 F j) (.frame 1 G B) LP (.frame 4 vals ft) zs++[.iter (mm.map kE) (mm.map vE) (done++[i]),.var 170 (bm (.d (enc x)))]⟩) (by first|rfl| (simp[fz];done)) (aI _ ?_)
  refine aG.rC M [0,6,14] λK aJ=>?_
  refine de.seq M none 2 [0,6,11,12] (by decide) (by decide) λaM aq=>?_
  simp[fz]
  refine dS (s':=⟨[(0,.aW 3),(6,.ptr 6 0),(11,.aW 3),(12,.d (enc x))],fz (.frame 0 F j) (.frame 1 G B) LP (.frame 4 vals ft) zs++[.iter (mm.map kE) (mm.map vE) (done++[i]),.var 170 (bm (.d (enc x)))]⟩) (by first|rfl| (simp[fz];done)) (aq _ ?_)
  refine de.aW M 3 [.d (enc x)] rfl rfl trivial (by decide) (by simp[jk]) (show _=some (AO.loop 3 13 #[7] aU gw tm .ready none) by rw[<-N];rfl) rfl (by decide) λY au=>?_
  simp only[<-N,<-aw]
  refine aC x zs (.iter (mm.map kE) (mm.map vE) (done++[i])) vals ft ?_ ⟨_,_,_,rfl⟩ Y λad ⟨aL,ao,ar⟩=>au none _ (de.fin M none ?_)
  ·have:=k0 80 (Nat.succ_le_of_lt al)
   exact hF this aA
  subst ar
  simp
  refine dS (s':=⟨[(0,.aW 3),(6,.ptr 6 0),(14,.d (.bool false))],[.frame 0 F j,.frame 1 G B,.var 136 [.row 9],LP,.frame 4 vals ft,.dead,.iter (mm.map kE) (mm.map vE) (done++[i]),.var 170 (bm (.d (enc x))),.frame 8 aL ao,.row 170 10 ((zs++[x]).map enc)]⟩) (by first|rfl| (simp;done)) (aJ _ ?_)
  refine aG.cond (b:=false) rfl (λh=>by cases h) λh=>aG.skip (aa _ ?_)
  show ag.Sub _ ⟨[(0,.aW 3),(6,.ptr 6 0)],fz (.frame 0 F j) (.frame 1 G B) LP (.frame 4 vals ft) (zs++[x])++[.iter (mm.map kE) (mm.map vE) (done++[i])]⟩
  exact Sub.bM [0,1,2,3,4,9,6] (by decide) (by simp[mF,N]) (by simp[cL,AO.bM,T.bM,T.cK,idx,fz,N]) (by simp[jV,T.bM,T.cK,idx])
 obtain⟨aP,U,aB⟩:=ay (λi hi=>ax i (by simpa using hi))
 injection U with U
 subst U
 refine ai _ _ (.inr rfl) ⟨⟨[],fz (.frame 0 F j) (.frame 1 G B) LP (.frame 4 vals ft) zs⟩,?_,trivial,rfl,zs,_,_,aB,rfl⟩
 exact Sub.bM [0,1,2,3,4,5] (by decide) (by simp[mF,fz,N]) (by simp[cL,AO.bM,T.bM,T.cK,idx,fz,N]) trivial
end
section
variable {mm:List (Int×Written)}
def YE{k:Nat->Value}{j:Tm}(au:mm.length*80<=140737488355328) :
  im Tryz.prog 262 [.bu 10,.d (.aB 190 [.box (.map (mm.map kE) (mm.map vE))])] [.frame 0 k j] λu l'=>u = .row 2/\∃(zs:List Written)(aD:Nat->Value)(an:Tm),zs.Perm (mm.map (·.2))/\l'=[.frame 0 k j,.frame 1 aD an,.row 170 10 (zs.map enc)]:=by
 have O:cn Tryz.prog (env []):=nN trivial
 refine im.of O (Enters.of Tryz.func262 (by decide)) Tryz.func262 rfl (by rw[Tryz.ntmps262];simp) λR ao w0 I0 vals ft Q Y=>?_
 rw[Tryz.ntmps262]
 simp only[List.length_cons,List.length_nil,List.cons_append,List.nil_append]at Y⊢
 simp only[iJ]
 refine aG.rS O none [1,2] λK af=>?_
 simp
 refine dS (s':=⟨[(1,.d (.aB 190 [.box (.map (mm.map kE) (mm.map vE))])),(2,.ptr 2 0)],[.frame 0 k j,.frame 1 vals ft,.var 136 [.bu 10]]⟩) (by first|rfl| (simp;done)) (af _ ?_)
 refine aG.F6 (λs'=>∃zs:List Written,zs.Perm (mm.map (·.2))/\Sub s' ⟨[(2,.ptr 2 0)],[.frame 0 k j,.frame 1 vals ft,.var 136 [.row 3],.row 170 10 (zs.map enc)]⟩) (λ_ al=>?_) ?_
 ·refine aG.rS O none [2,6] λK af=>?_
  simp
  refine dS (s':=⟨[(2,.ptr 2 0),(6,.d (.aB 190 [.box (.map (mm.map kE) (mm.map vE))]))],[.frame 0 k j,.frame 1 vals ft,.var 136 [.bu 10]]⟩) (by first|rfl| (simp;done)) (af _ ?_)
  refine aG.block ?_
  refine aG.X6 ao (gf:=190) (caps:=[.d (.box (.map (mm.map kE) (mm.map vE)))]) rfl λaU gw aq ar K ab=>?_
  dsimp only[List.length_cons,List.length_nil]at ab⊢
  refine(YG (LP:=.loop 3 13 #[7] aU gw [(2,.ptr 2 0),(6,.d (.aB 190 [.box (.map (mm.map kE) (mm.map vE))]))] .ready none) rfl rfl ?_ au).mono ?_
  ·rintro x zs Z G B aH ⟨aI,vs,aF,ak⟩ aE aj R w0 I0 M F Q Y
   obtain⟨LP,ad⟩:∃LP,LP=AO.loop 3 13 #[7] aU gw [(2,.ptr 2 0),(6,.d (.aB 190 [.box (.map (mm.map kE) (mm.map vE))]))] .ready none:=⟨_,rfl⟩
   obtain⟨N,aa⟩:∃N,N=AO.loop 3 13 #[7] aU gw [(2,.ptr 2 0),(6,.d (.aB 190 [.box (.map (mm.map kE) (mm.map vE))]))] .busy none:=⟨_,rfl⟩
   have av:∀s2,(∃U,ag.Sub s2 U/\U.l[8]?=some (.frame 8 M F)/\U.l[3]?=some N/\U.l.set 3 LP=[.frame 0 k j,.frame 1 vals ft,.var 136 [.row 9],LP,.frame 4 G B,.dead,Z,.var 170 (bm (.d (enc x))),.frame 8 M F,.row 170 10 ((zs++[x]).map enc)])->Q .normal s2:=by
    rintro s2 ⟨U,ay,az,aA,aC⟩
    refine Y .normal none s2 rfl ⟨U,ay,az,by rw[aA,aa],?_⟩
    have ai:=aj (.frame 8 M F) ⟨_,_,rfl⟩
    simp only[Option.isNone_none,hQ]
    rw[<-ad,aC]
    rw[<-ad]at ai
    exact ai
   simp only[<-ad,<-aa]
   clear Y aj ab al
   subst aq
   subst ar
   refine aG.A2 O none [2,5] λK ah=>?_
   simp[ko,fz]
   refine dS (s':=⟨[(2,.ptr 2 0),(5,.ptr 9 0)],fz (.frame 0 k j) (.frame 1 vals ft) LP (.frame 4 G B) zs++[Z,.var 170 (bm (.d (enc x))),.frame 8 M F,.var 170 (bm (.d (enc x)))]⟩) (by first|rfl| (simp[fz];done)) (ah _ ?_)
   refine⟨_,Sub.refl _,rfl,rfl,?_⟩
   show aG _ _ _ _ _ ⟨[(2,.ptr 2 0),(5,.ptr 9 0)],[.frame 0 k j,.frame 1 vals ft,.var 136 [.row 5],N,.frame 4 G B,.row 170 10 (zs.map enc),Z,.var 170 (bm (.d (enc x))),.frame 8 M F,.var 170 (bm (.d (enc x)))]⟩ _
   refine aG.block ?_
   refine aG.A2 O none [] λK ax=>?_
   simp
   refine And.intro (by omega) ?_
   refine dS (s':=⟨[],[.frame 0 k j,.frame 1 vals ft,.var 136 [.row 10],N,.frame 4 G B,.dead,Z,.var 170 (bm (.d (enc x))),.frame 8 M F,.var 170 (bm (.d (enc x))),.row 170 10 ((zs++[x]).map enc)]⟩) (by first|rfl| (simp;done)) (ax _ ?_)
   refine av _ ⟨⟨[],[.frame 0 k j,.frame 1 vals ft,.var 136 [.row 9],N,.frame 4 G B,.dead,Z,.var 170 (bm (.d (enc x))),.frame 8 M F,.row 170 10 ((zs++[x]).map enc)]⟩,?_,rfl,rfl,rfl⟩
   exact Sub.bM [0,1,2,3,4,5,6,7,8,10] (by decide) (by simp[mF,aa,ak]) (by simp[cL,AO.bM,T.bM,T.cK,idx,aa,ak]) trivial
  rintro u l' ⟨zs,G,B,ae,rfl⟩
  refine ab _ _ ⟨3,13,#[7],aU,gw,_,.ready,none,rfl,by simp,?_⟩
  refine al _ ⟨zs,ae,?_⟩
  show ag.Sub ⟨[(2,.ptr 2 0),(6,.d (.aB 190 [.box (.map (mm.map kE) (mm.map vE))]))],[.frame 0 k j,.frame 1 vals ft,.var 136 [.row 5],.loop 3 13 #[7] aU gw [(2,.ptr 2 0),(6,.d (.aB 190 [.box (.map (mm.map kE) (mm.map vE))]))] .exhausted none,.frame 4 G B,.row 170 10 (zs.map enc)]⟩ _
  exact Sub.bM [0,1,2,5] (by decide) (by simp[mF]) (by simp[cL,AO.bM,T.bM,T.cK,idx]) (by simp[jV,T.bM,T.cK,idx])
 rintro s' ⟨zs,ae,aw⟩
 refine aG.sub aw ?_
 refine aG.rS O none [4] λK ah=>?_
 simp
 refine dS (s':=⟨[(4,.row 3)],[.frame 0 k j,.frame 1 vals ft,.var 136 [.row 3],.row 170 10 (zs.map enc)]⟩) (by first|rfl|simp) (ah _ ?_)
 refine aG.ret ?_
 refine Y _ _ (.inl rfl) ⟨⟨[(4,.row 2)],[.frame 0 k j,.frame 1 vals ft,.row 170 10 (zs.map enc)]⟩,Sub.bM [0,1,3] (by decide) (by simp[mF]) (by simp[cL,AO.bM]) (by simp[jV,T.bM,T.cK,idx]),by simp[eX],rfl,by simp[eX,xl],zs,_,_,ae,rfl⟩
def YF(O:mm.length*80<=140737488355328) :
  im Tryz.prog 188 [.d (.aB 190 [.box (.map (mm.map kE) (mm.map vE))])] [] λu l'=>u = .row 1/\∃(zs:List Written)(Y:Nat->Value)(F:Tm),zs.Perm (mm.map (·.2))/\l'=[.frame 0 Y F,.row 170 10 (zs.map enc)]:=by
 have j:cn Tryz.prog (env []):=nN trivial
 refine im.of j (Enters.of Tryz.func188 (by decide)) Tryz.func188 rfl (by rw[Tryz.ntmps188];simp) λR ad w0 I0 vals ft Q B=>?_
 rw[Tryz.ntmps188]
 simp only[List.length_nil,List.nil_append]at B⊢
 simp only[iJ]
 refine aG.rS j none [0] λK k=>?_
 simp
 refine dS (s':=⟨[(0,.d (.aB 190 [.box (.map (mm.map kE) (mm.map vE))]))],[.frame 0 vals ft]⟩) (by first|rfl|simp) (k _ ?_)
 refine aG.rC j [2] λK k=>?_
 refine de.seq j none 1 [3] (by decide) (by decide) λaa M=>?_
 simp
 refine dS (s':=⟨[(3,.d (.aB 190 [.box (.map (mm.map kE) (mm.map vE))]))],[.frame 0 vals ft]⟩) (by first|rfl|simp) (M _ ?_)
 refine de.call j 262 [.bu 10,.d (.aB 190 [.box (.map (mm.map kE) (mm.map vE))])] rfl rfl trivial (by decide) (by simp[dZ]) λab N=>?_
 refine(YE O).mono ?_
 rintro _ _ ⟨rfl,zs,Z,G,U,rfl⟩
 refine N _ _ (de.fin j none ?_)
 simp
 refine dS (s':=⟨[(2,.row 2)],[.frame 0 vals ft,.frame 1 Z G,.row 170 10 (zs.map enc)]⟩) (by first|rfl|simp) (k _ ?_)
 refine aG.ret ?_
 refine B _ _ (.inl rfl) ⟨⟨[(2,.row 1)],[.frame 0 vals ft,.row 170 10 (zs.map enc)]⟩,Sub.bM [0,2] (by decide) (by simp[mF]) (by simp[cL,AO.bM]) (by simp[jV,T.bM,T.cK,idx]),by simp[eX],rfl,by simp[eX,xl],zs,_,_,U,rfl⟩
end
abbrev kG:Written->Written->Int:=ju uE nv
def aaU(x:Written)(y:D)(j:y∈aD.cells 16 x):∃n,y = .int .i64 n:=by
 rw[G4]at j
 simp only[fb,r3,Qd]at j
 rcases j with rfl|rfl|rfl|rfl|rfl|rfl|rfl|rfl|rfl|rfl<;>exact⟨_,rfl⟩
def CZ:Flat Written 10:=⟨λx=>rfl,λx=>rfl,λx y j=>by
 obtain⟨n,rfl⟩:=aaU x y j
 rfl⟩
def TR{l:List AO}{id:Nat}{xs:List Written}(Z:l[id]?=some (.row 170 10 (xs.map enc)))(j:xs.length<4611686018427387904)(aa:∀x∈xs,mg x)(N:gr kG xs) :
  sf Tryz.prog 189 [.row id,.d (.fn 100)] l (.d (.aJ [])) (l.set id (.row 170 10 ((fX kG xs).map enc))):=by
 haveI:Inhabited {x:Written // mg x}:=⟨⟨⟨0,0,0,⟨0,1⟩,⟨0,1⟩,⟨0,0,4⟩⟩,by decide,by decide,by decide⟩⟩
 refine @TQ Written _ (@nL ⟨True⟩) (@nL lU) trivial rfl _ _ _ _ _ mg _ kG CZ (pZ (λ_=>rfl)) (λx y j B=>@gM.jv _ (@nL ⟨True⟩) _ _ (@Bk.k ⟨True⟩ (@O7 ⟨True⟩)) (x,y) _ (aaP j B)) (λb c d w vs U M O Y=>?_) (λp c G w=>AnyF.slices_SortFunc_none {Tryz.Nr with} p c G w) _ _ _ Z j aa N
 exact AnyQ.slices_SortFunc_eq Tryz.Nr 10 Tryz.isAgg170 Tryz.sizeOf170 _ (λx=>by simp[gq,CZ.len]) (λx v F=>by
  simp only[gq,hz]at F
  obtain⟨y,B,rfl⟩:=F
  have:=CZ.sc _ y B
  cases y<;>simp[oD]at this<;>rfl) _ (Bi (pZ (λ_=>rfl))) 100 vs b 0 c d w (Enters.of Tryz.func100 (by decide)) U M O Y
def ym:BI:=λg ts l=>if g=189 then(match ts with
 | [.row id,.d (.fn 100)]=>(match l[id]? with
  |some (.row 170 10 els)=>some ⟨.d (.aJ []),l.set id (.row 170 10 ((fX kG (els.map dec)).map enc)),(els.map (dec:D->Written)).map enc=els/\(∀x∈els.map (dec:D->Written),mg x)/\gr kG (els.map (dec:D->Written))/\els.length<=1000000000⟩
  |_=>none)
 |_=>none)else none
def TM:Ha Tryz.prog ym:=by
 intro g ts l r j N
 unfold ym at j
 split at j
 ·rename_i G
  subst G
  split at j
  ·rename_i id
   split at j
   ·rename_i els M
    cases j
    obtain⟨k,B,F,O⟩:=N
    refine⟨Enters.of Tryz.func189 (by decide),?_⟩
    exact TR (xs:=els.map dec) (by rw[k];exact M) (by simp;omega) B F
   cases j
  cases j
 cases j
def yg(l:List (FuncId×ag.Spec)):Env:={env l with F:=ym}
def Tg{l:List (FuncId×ag.Spec)}(h:sn Tryz.prog l):cn Tryz.prog (yg l):=⟨(nN h).E,(nN h).C,(nN h).eq,TM,(nN h).prog⟩
theorem Sv{mm:List (Int×Written)}(Z:mm.length*80<=140737488355328)(aa:∀x∈mm.map (·.2),mg x)(G:gr kG (mm.map (·.2)))(U:mm.length<=1000000000) :
  eO Tryz.prog 98 [.aB 190 [.box (.map (mm.map kE) (mm.map vE))],.fn 100] (enc (fX kG (mm.map (·.2)))):=by
 have j:cn Tryz.prog (yg []):=Tg trivial
 refine eO.Ln j Tryz.func98 rfl (by rw[Tryz.ntmps98];simp) λR al w0 I0 Q F=>?_
 rw[Tryz.ntmps98]
 refine aG.rS j none [0,1] λK B=>?_
 simp
 refine dS (s':=⟨[(0,.d (.aB 190 [.box (.map (mm.map kE) (mm.map vE))])),(1,.d (.fn 100))],[]⟩) (by first|rfl|simp) (B _ ?_)
 refine aG.rC j [1,5] λK B=>?_
 refine de.seq j none 1 [1,6] (by decide) (by decide) λaj N=>?_
 simp
 refine dS (s':=⟨[(1,.d (.fn 100)),(6,.d (.aB 190 [.box (.map (mm.map kE) (mm.map vE))]))],[]⟩) (by first|rfl|simp) (N _ ?_)
 refine de.call j 188 [.d (.aB 190 [.box (.map (mm.map kE) (mm.map vE))])] rfl rfl trivial (by decide) (by simp[dZ,yg]) λak O=>?_
 refine(YF Z).mono ?_
 rintro _ _ ⟨rfl,zs,ai,M,k,rfl⟩
 have ad:gr kG zs:=G.perm k.symm
 have ab:∀x∈zs,mg x:=λx af=>aa x (k.subset af)
 have Y:zs.length<=1000000000:=by rw[k.length_eq];simpa using U
 have ae:fX kG (mm.map (·.2))=fX kG zs:=xb (nq (pZ (λ_=>rfl)) _) (nq (pZ (λ_=>rfl)) _) ((jM _ _).trans (k.symm.trans (jM _ _).symm)) (G.perm (jM _ _).symm)
 rw[ae]at F
 refine O _ _ (de.fin j none ?_)
 simp
 refine dS (s':=⟨[(1,.d (.fn 100)),(5,.row 1)],[.frame 0 ai M,.row 170 10 (zs.map enc)]⟩) (by first|rfl|simp) (B _ ?_)
 refine aG.sub (s':=⟨[(1,.d (.fn 100)),(5,.row 0)],[.row 170 10 (zs.map enc)]⟩) (Sub.bM [1] (by decide) (by simp[mF]) (by simp[cL,AO.bM]) (by simp[jV,T.bM,T.cK,idx])) ?_
 refine aG.rS j none [5] λK ag=>?_
 simp[yg,ym]
 refine And.intro ⟨ab,ad,Y⟩ ?_
 refine dS (s':=⟨[(5,.row 0)],[.row 170 10 ((fX kG zs).map enc)]⟩) (by first|rfl|simp) (ag _ ?_)
 refine aG.rS j none [4] λK ah=>?_
 simp
 refine dS (s':=⟨[(4,.row 0)],[.row 170 10 ((fX kG zs).map enc)]⟩) (by first|rfl|simp) (ah _ ?_)
 refine aG.ret ?_
 refine F _ _ (.inl rfl) ?_
 simp[wZ,eX]
def xX:Sy.Callee:=⟨98,[.aB 190 (.box (.map (.int .i64) (.st 16))),.fn 100],[.list (.st 16)],rE⟩
def U8:gM Tryz.prog xX:=
 ⟨Enters.of Tryz.func98 (by decide),λa r h=>(by
  change List (Int×Written)×Unit at a
  change List Written at r
  obtain⟨mm,u⟩:=a
  have h:rE (mm,u)=some r:=h
  unfold rE at h
  split at h
  ·rename_i F
   injection h with h;subst h
   obtain⟨j,B,k⟩:=F
   have j:∀p∈mm,mg p.2:=j
   have k:mm.length<=1000000000:=k
   exact Sv (mm:=mm) (by omega) (λx M=>by
    obtain⟨p,G,rfl⟩:=hz.1 M
    exact j p G) B k
  ·cases h),
  λt h=>cE (dT.1 (rfl:xX.args.all dG=true) t h),λt h=>cE (dT.1 (rfl:xX.res.all dG=true) t h)⟩
def Rl:Bk:=⟨xX,U8⟩
end Go.Proofs.YthhlipkkjippfaaGreatDoor
namespace Go.Proofs.YthhlipkkjippfaaGreatDoor
open Go Go.ag Go.Sy Go.RowKit Go.Sort
attribute [local instance] bV lU
set_option maxRecDepth 10000
def iP:∀(x:List (Int×Int)),∃n:Int,∀p∈x,p.1<n
 | []=>⟨0,by simp⟩
 |p::x=>by
  obtain⟨n,j⟩:=iP x
  refine⟨max n (p.1+1),λq hq=>?_⟩
  rcases fb.1 hq with rfl|hq
  ·omega
  have:=j q hq;omega
def V3(at_:List (Int×Int)):∃a,oh at_ a:=by
 obtain⟨n,j⟩:=iP at_
 refine⟨⟨1,1,n,0,0,⟨0,1⟩,⟨1,1⟩,⟨0,0,4⟩⟩,?_,by dsimp only;omega,show bI ⟨0,1⟩ by decide,by dsimp only;omega,show bR ⟨0,0,4⟩ by decide,by dsimp only;omega⟩
 have:an at_ n 0=0:=by
  unfold an
  rw[qd.2 (λp k=>by
   have:=j p k
   simp;omega)];rfl
 simp only[this]
 decide
theorem Ey(x:aq):aD.cells 5 x=[.int .i64 x.id,.int .i64 x.part,.int .i64 x.az,.int .i64 x.bc,.int .i64 x.bF,.int .i64 x.start.n,.int .i64 x.start.d,.int .i64 x.length.n,.int .i64 x.length.d,.int .i64 x.aR.step,.int .i64 x.aR.alter,.int .i64 x.aR.aZ]:=rfl
def Lb(x:aq)(y:D)(j:y∈aD.cells 5 x):∃n,y = .int .i64 n:=by
 rw[Ey]at j
 simp only[fb,r3,Qd]at j
 rcases j with rfl|rfl|rfl|rfl|rfl|rfl|rfl|rfl|rfl|rfl|rfl|rfl<;>exact⟨_,rfl⟩
def xg:iO:=⟨272,.st 5,[.aB 273 (.box (.map (.int .i64) (.int .i64)))],AI⟩
def U7:nB Tryz.prog xg.f xg.t xg.args xg.fn:=
 Oa (@nL ⟨True⟩) (D0:=@nL lU) trivial rfl (i:=5) (k:=12) (t:=.box (.map (.int .i64) (.int .i64))) (ok:=oh) (cf:=λat_=>cr (nK at_)) (⟨0,0,0,0,0,⟨0,0⟩,⟨0,0⟩,⟨0,0,0⟩⟩:aq)
  (
   λ(x y:aq) h=>by
   rw[Ey,Ey]at h
   obtain⟨Z,ae,af,ag,ah,⟨ai,aj⟩,⟨ak,al⟩,aa,ab,ad⟩:=x
   obtain⟨an,av,aw,ax,ay,⟨az,aA⟩,⟨aB,aC⟩,ao,ar,au⟩:=y
   simp only[q6,D.int.injEq,abk,and_true]at h
   obtain⟨rfl,rfl,rfl,rfl,rfl,rfl,rfl,rfl,rfl,rfl,rfl,rfl⟩:=h
   rfl)
  (λx=>rfl)
  (
   λ(x:aq) y j=>by
   obtain⟨n,rfl⟩:=Lb x y j
   rfl)
  (λc=>V3 c) (λc=>Bj (vR c))
  (λ(at_:List (Int×Int))(x y:aq) Y j=>@gM.jv _ (@nL ⟨True⟩) _ _ (@Bk.k ⟨True⟩ (@PL ⟨True⟩)) (x,y,at_) _ (V4 Y j))
  (Enters.of Tryz.func272 (by decide))
  (
   λe aE _ aD U b c d w vs N G M O=>by
   exact AnyQ.slices_SortFunc_eq Tryz.Nn 12 Tryz.isAgg126 Tryz.sizeOf126 _ (λx=>rfl) (λx v B=>by
    simp only[hz]at B
    obtain⟨y,j,rfl⟩:=B
    obtain⟨n,rfl⟩:=Lb x.1 y j
    rfl) _ (Bi U) 273 vs b 0 c d w (Enters.of Tryz.func273 (by decide)) N G M O)
  (λp c F w=>AnyF.slices_SortFunc_none {Tryz.Nn with} p c F w)
theorem GC(x:aw):aD.cells 15 x=[.int .i64 x.part,.int .i64 x.start.n,.int .i64 x.start.d,.int .i64 x.length.n,.int .i64 x.length.d,.int .i64 x.aR.step,.int .i64 x.aR.alter,.int .i64 x.aR.aZ]:=rfl
def N2(x:aw)(y:D)(j:y∈aD.cells 15 x):∃n,y = .int .i64 n:=by
 rw[GC]at j
 simp only[fb,r3,Qd]at j
 rcases j with rfl|rfl|rfl|rfl|rfl|rfl|rfl|rfl<;>exact⟨_,rfl⟩
def uz:iO:=⟨75,.st 15,[.aB 76 (.box (.fn 73))],rD⟩
def Kg:nB Tryz.prog uz.f uz.t uz.args uz.fn:=
 Oa (@nL ⟨True⟩) (D0:=@nL lU) trivial rfl (i:=15) (k:=8) (t:=.box (.fn 73)) (ok:=λ_=>ku) (cf:=λ_=>ju tS tK) (⟨0,⟨0,0⟩,⟨0,0⟩,⟨0,0,0⟩⟩:aw)
  (
   λ(x y:aw) h=>by
   rw[GC,GC]at h
   obtain⟨Z,⟨ae,af⟩,⟨ag,ah⟩,aa,ab,ad⟩:=x
   obtain⟨ai,⟨an,ao⟩,⟨aq,ar⟩,aj,ak,al⟩:=y
   simp only[q6,D.int.injEq,abk,and_true]at h
   obtain⟨rfl,rfl,rfl,rfl,rfl,rfl,rfl,rfl⟩:=h
   rfl)
  (λx=>rfl)
  (
   λ(x:aw) y j=>by
   obtain⟨n,rfl⟩:=N2 x y j
   rfl)
  (λc=>⟨⟨0,⟨0,1⟩,⟨1,1⟩,⟨0,0,4⟩⟩,by decide,by decide,by decide,by decide⟩) (λc=>pZ (λ_=>rfl))
  (λ(_:Unit)(x y:aw) Y j=>@gM.jv _ (@nL ⟨True⟩) _ _ (@Bk.k ⟨True⟩ (@Rp ⟨True⟩)) (x,y,()) _ (ZC Y j))
  (Enters.of Tryz.func75 (by decide))
  (
   λe av _ au U b c d w vs N G M O=>by
   exact AnyQ.slices_SortFunc_eq Tryz.eM 8 Tryz.isAgg62 Tryz.sizeOf62 _ (λx=>rfl) (λx v B=>by
    simp only[hz]at B
    obtain⟨y,j,rfl⟩:=B
    obtain⟨n,rfl⟩:=N2 x.1 y j
    rfl) _ (Bi U) 76 vs b 0 c d w (Enters.of Tryz.func76 (by decide)) N G M O)
  (λp c F w=>AnyF.slices_SortFunc_none {Tryz.eM with} p c F w)
end Go.Proofs.YthhlipkkjippfaaGreatDoor
namespace Go.Proofs.YthhlipkkjippfaaGreatDoor
open Go Go.ag Go.Sy
def zK:((List aM)×(List aq))->Option (List aq):=λ(k,j)=>aa (wh k) λB=>aa (oi (List.isEmpty j) (some ([]:List aq)) (ae (decide ((List.append ([]:List aq) j).length*96<=140737488355328/\(List.append ([]:List aq) j).length<=9223372036854775807)) <|some (List.append ([]:List aq) j))) λ(F:(List aq))=>aa (AI (F,B)) λG=>some G
def zG:((List aM)×(List aq))->Option ((List aq)×Int):=λ(j,k)=>aa (wg (j,k)) λF=>ab (!F) (some (([]:List aq),1)) (aa (zK (j,k)) λB=>some (B,0))
def ox:Score->Option Bool:=λ(j)=>aa (aa (tY j.version) λF=>ab (!F) (some true) (aa (tN j.bars) λB=>ab (!B) (some true) (aa (Ao j.parts) λk=>ab (!k) (some true) (aa (wg (j.bars,j.notes)) λM=>ab (!M) (some true) (aa (wy (j.parts,j.notes)) λG=>some (!(aA G 0))))))) λ(F:Bool)=>ab F (some false) (aa (zG (j.bars,j.notes)) λB=>aa (ab (aA B.2 0) (aa (Fg (B.1,j.notes)) λk=>some k) (some false)) λ(k:Bool)=>some k)
def An:(Score×Int)->Option ((List aq)×Int):=λ(F,M)=>aa (ox F) λO=>ab (!O) (some (([]:List aq),1)) (aa (Aq (F.parts,(M,()))) λN=>ab (!N.2) (some (([]:List aq),22)) (aa (aa (au F.parts N.1) λG=>aa (As (F,G)) λk=>ay (λB:(Int×(List aq))=>ab (ah B.1 (k.1.notes.length:Int)) (aa (aa (au k.1.notes B.1) λj=>ab (!(aA j.part k.2.1)) (some B.2) (ae (ai (j.aR.aZ+k.2.2.aZ)) <|ae (decide ((List.append B.2 ((⟨j.id,k.2.2.id,j.az,j.bc,j.bF,j.start,j.length,(⟨j.aR.step,j.aR.alter,(j.aR.aZ+k.2.2.aZ)⟩:aP)⟩:aq)::([]:List aq))).length*96<=140737488355328/\(List.append B.2 ((⟨j.id,k.2.2.id,j.az,j.bc,j.bF,j.start,j.length,(⟨j.aR.step,j.aR.alter,(j.aR.aZ+k.2.2.aZ)⟩:aP)⟩:aq)::([]:List aq))).length<=9223372036854775807)) <|some (List.append B.2 ((⟨j.id,k.2.2.id,j.az,j.bc,j.bF,j.start,j.length,(⟨j.aR.step,j.aR.alter,(j.aR.aZ+k.2.2.aZ)⟩:aP)⟩:aq)::([]:List aq))))) λ(j:(List aq))=>ae (ai (B.1+1)) <|some (.inl ((B.1+1),j))) (some (.inr B.2))) (0,([]:List aq))) λ(G:(List aq))=>some (G,0)))
def rF:(Score×Int)->Option (View×Int):=λ(F,U)=>aa (An (F,U)) λG=>ab (!(aA G.2 0)) (some ((⟨0,([]:List aL)⟩:View),G.2)) (aa (ua (F,U)) λM=>aa (ay (λk:(Int×((List aq)×(List aL)))=>ab (ah k.1 (F.bars.length:Int)) (aa (au F.bars k.1) λN=>aa (ay (λj:((List aq)×(List Written))=>aa (ab (ah 0 (j.1.length:Int)) (aa (au j.1 0) λB=>some (aA B.az N.id)) (some false)) λ(B:Bool)=>ab B (aa (au j.1 0) λY=>aa (wH (M.1,(N,Y))) λO=>ae (decide ((List.append j.2 (O::([]:List Written))).length*80<=140737488355328/\(List.append j.2 (O::([]:List Written))).length<=9223372036854775807)) <|ae ((leI 0 1)&&(leI 1 (j.1.length:Int))) <|some (.inl ((List.drop (Int.toNat 1) j.1),(List.append j.2 (O::([]:List Written)))))) (some (.inr (j.1,j.2)))) (k.2.1,([]:List Written))) λ(j:((List aq)×(List Written)))=>aa (wG (M.1,(N,j.2))) λB=>ae (decide ((List.append k.2.2 (B::([]:List aL))).length*56<=140737488355328/\(List.append k.2.2 (B::([]:List aL))).length<=9223372036854775807)) <|ae (ai (k.1+1)) <|some (.inl ((k.1+1),(j.1,(List.append k.2.2 (B::([]:List aL))))))) (some (.inr k.2.2))) (0,(G.1,([]:List aL)))) λ(k:(List aL))=>some ((⟨M.1.part.id,k⟩:View),0))
def wC:(Score×View)->Option Bool:=λ(F,G)=>aa (aa (ox F) λO=>ab (!O) (some true) (some (!(aA (G.bh.length:Int) (F.bars.length:Int))))) λ(O:Bool)=>ab O (some false) (aa (ua (F,G.part)) λY=>ab (!Y.2) (some false) (aQ (ay (λj:(Int×(Int×(List (Int×Bool))))=>ab (ah j.2.1 (G.bh.length:Int)) (aa (au G.bh j.2.1) λk=>aa (au F.bars j.2.1) λZ=>aa (wG (Y.1,(Z,([]:List Written)))) λM=>aa (ab (!(aA k.az M.az)) (some true) (ab (!(aA k.key M.key)) (some true) (ab (!(Cc k.length M.length)) (some true) (aa (AH (k.notes,())) λU=>some (!U))))) λ(U:Bool)=>ab U (some (.inr (.inr false))) (aQ (ay (λB:(Int×(List (Int×Bool)))=>ab (ah B.1 (k.notes.length:Int)) (aa (au k.notes B.1) λN=>aa (wD (N,k.length)) λad=>ab (!ad) (some (.inr (.inr (.inr (.inr false))))) (ae (ai (B.1+1)) <|some (.inl ((B.1+1),(aH B.2 N.id true))))) (some (.inr (.inl B.2)))) (0,j.2.2)) λ(B:(List (Int×Bool)))=>ae (ai (j.1+(k.notes.length:Int))) <|ae (ai (j.2.1+1)) <|some (.inl ((j.1+(k.notes.length:Int)),((j.2.1+1),B))))) (some (.inr (.inl (j.1,j.2.2))))) (0,(0,([]:List (Int×Bool))))) λ(j:(Int×(List (Int×Bool))))=>aa (ab (leI j.1 20000) (some (aA (j.2.length:Int) j.1)) (some false)) λ(k:Bool)=>some k))
def rG:(Score×View)->Option ((List aq)×Int):=λ(O,G)=>aa (wC (O,G)) λY=>ab (!Y) (some (([]:List aq),1)) (aa (ua (O,G.part)) λM=>aQ (ay (λk:(Int×(List aq))=>ab (ah k.1 (G.bh.length:Int)) (aQ (aa (au G.bh k.1) λF=>ay (λB:(Int×(List aq))=>ab (ah B.1 (F.notes.length:Int)) (aa (au F.notes B.1) λj=>aa (au O.bars k.1) λU=>aa (zy (M.1.part,(U.key,j.aR))) λN=>ab (!(aA N.2 0)) (some (.inr (.inr (.inr (.inr (([]:List aq),3)))))) (ae (decide ((List.append B.2 ((⟨j.id,M.1.part.id,F.az,j.bc,j.bF,j.start,j.length,N.1⟩:aq)::([]:List aq))).length*96<=140737488355328/\(List.append B.2 ((⟨j.id,M.1.part.id,F.az,j.bc,j.bF,j.start,j.length,N.1⟩:aq)::([]:List aq))).length<=9223372036854775807)) <|ae (ai (B.1+1)) <|some (.inl ((B.1+1),(List.append B.2 ((⟨j.id,M.1.part.id,F.az,j.bc,j.bF,j.start,j.length,N.1⟩:aq)::([]:List aq))))))) (some (.inr (.inl B.2)))) (0,k.2)) λ(F:(List aq))=>ae (ai (k.1+1)) <|some (.inl ((k.1+1),F))) (some (.inr (.inl k.2)))) (0,([]:List aq))) λ(k:(List aq))=>some (k,0))
def lf:(dB×Room)->Option ((List aw)×Int):=λ(N,O)=>aa (rA O.form) λad=>aa (lY ((⟨0,([]:List aL)⟩:View),O.bA)) λal=>aa (ab (!(aA ad.2 0)) (some true) (ab (!(aA al.2 0)) (some true) (aa (ox N.score) λaj=>ab (!aj) (some true) (ab (!(aA O.version N.score.version)) (some true) (some (!(aA O.form.bars (N.score.bars.length:Int)))))))) λ(aj:Bool)=>ab aj (some (([]:List aw),1)) (aQ (ay (λG:(Int×(List aw))=>ab (ah G.1 (N.score.parts.length:Int)) (aa (au N.score.parts G.1) λaf=>aa (rF (N.score,af.id)) λag=>aa (ab (aA ag.2 0) (aa (aa (lY (ag.1,O.bA)) λM=>ab (!(aA M.2 0)) (some (G.2,M.2)) (aa (rG (N.score,M.1)) λY=>ab (!(aA Y.2 0)) (some (G.2,Y.2)) (aa (ay (λB:(Int×(List (Int×(List aq))))=>ab (ah B.1 (Y.1.length:Int)) (aa (au Y.1 B.1) λj=>ae (decide ((List.append (an B.2 j.az ([]:List aq)) (j::([]:List aq))).length*96<=140737488355328/\(List.append (an B.2 j.az ([]:List aq)) (j::([]:List aq))).length<=9223372036854775807)) <|ae (ai (B.1+1)) <|some (.inl ((B.1+1),(aH B.2 j.az (List.append (an B.2 j.az ([]:List aq)) (j::([]:List aq))))))) (some (.inr B.2))) (0,([]:List (Int×(List aq))))) λ(B:(List (Int×(List aq))))=>aQ (ay (λj:(Int×((List aw)×(Int×Int)))=>ab (ah j.1 (ad.1.length:Int)) (aa (au ad.1 j.1) λak=>aa (au N.score.bars ak.az) λZ=>aQ (ay (λF:(Int×(List aw))=>ab (ah F.1 ((an B Z.id ([]:List aq)).length:Int)) (aa (au (an B Z.id ([]:List aq)) F.1) λk=>aa (fg ((⟨j.2.2.1,j.2.2.2⟩:Rat),k.start)) λU=>ab (!(aA U.2 0)) (some (.inr (.inr (.inr (.inr (F.2,U.2)))))) (ae (decide ((List.append F.2 ((⟨k.part,U.1,k.length,k.aR⟩:aw)::([]:List aw))).length*64<=140737488355328/\(List.append F.2 ((⟨k.part,U.1,k.length,k.aR⟩:aw)::([]:List aw))).length<=9223372036854775807)) <|ae (ai (F.1+1)) <|some (.inl ((F.1+1),(List.append F.2 ((⟨k.part,U.1,k.length,k.aR⟩:aw)::([]:List aw))))))) (some (.inr (.inl F.2)))) (0,j.2.1)) λ(F:(List aw))=>aa (fg ((⟨j.2.2.1,j.2.2.2⟩:Rat),Z.length)) λk=>ae (ai (j.1+1)) <|some (.inl ((j.1+1),(F,(k.1.n,k.1.d))))) (some (.inr (.inl j.2.1)))) (0,(G.2,(0,1)))) λ(j:(List aw))=>some (j,0)))) λ(M:((List aw)×Int))=>some (M.2,M.1)) (some (ag.2,G.2))) λ(M:(Int×(List aw)))=>ab (!(aA M.1 0)) (some (.inr (.inr (([]:List aw),M.1)))) (ae (ai (G.1+1)) <|some (.inl ((G.1+1),M.2)))) (some (.inr (.inl G.2)))) (0,([]:List aw))) λ(G:(List aw))=>aa (rD (G,())) λaf=>some (af,0))
def zp:View->Option ((List Int)×Int):=λ(F)=>aa (rn F) λM=>ab (!M) (some (([]:List Int),1)) (aa (ay (λj:(Int×(List (Int×Bool)))=>ab (ah j.1 (F.bh.length:Int)) (aa (aa (au F.bh j.1) λB=>ay (λk:(Int×(List (Int×Bool)))=>ab (ah k.1 (B.notes.length:Int)) (aa (au B.notes k.1) λG=>ae (ai (k.1+1)) <|some (.inl ((k.1+1),(aH k.2 G.bc true)))) (some (.inr k.2))) (0,j.2)) λ(B:(List (Int×Bool)))=>ae (ai (j.1+1)) <|some (.inl ((j.1+1),B))) (some (.inr j.2))) (0,([]:List (Int×Bool)))) λ(j:(List (Int×Bool)))=>aa (LA (fe j 0)) λB=>aa (wA B) λk=>some (k,0))
def zn:(View×Int)->Option ((List Int)×Int):=λ(G,k)=>aa (zp G) λB=>aa (ab (!(aA B.2 0)) (some true) (ab (ah k 1) (some true) (some (ah 40 k)))) λ(M:Bool)=>ab M (some (([]:List Int),1)) (ab (ah k (B.1.length:Int)) (some (([]:List Int),6)) (ae (leI 0 k) <|ae (decide ((List.replicate (Int.toNat k) (0:Int)).length*8<=140737488355328/\(List.replicate (Int.toNat k) (0:Int)).length<=9223372036854775807)) <|aa (ay (λj:(Int×(List Int))=>ab (ah j.1 ((List.replicate (Int.toNat k) (0:Int)).length:Int)) (aa (ab (ah 0 (B.1.length:Int)) (ae (ai (j.1*(B.1.length:Int))) <|ae (!(aA k 0)) <|ae (ai (Int.tdiv (j.1*(B.1.length:Int)) k)) <|aa (au B.1 (Int.tdiv (j.1*(B.1.length:Int)) k)) λF=>ae ((leI 0 j.1)&&(ah j.1 (j.2.length:Int))) <|aa (au j.2 j.1) λN=>some (List.set j.2 (Int.toNat j.1) F)) (some j.2)) λ(F:(List Int))=>ae (ai (j.1+1)) <|some (.inl ((j.1+1),F))) (some (.inr j.2))) (0,(List.replicate (Int.toNat k) (0:Int)))) λ(j:(List Int))=>some (j,0)))
def tZ:dB->Option ((List View)×Int):=λ(F)=>aa (ox F.score) λU=>ab (!U) (some (([]:List View),1)) (aQ (ay (λj:(Int×(List View))=>ab (ah j.1 (F.score.parts.length:Int)) (aQ (aa (au F.score.parts j.1) λG=>aa (rF (F.score,G.id)) λN=>aa (zn (N.1,G.ed)) λM=>ab (!(aA M.2 0)) (some (.inr (.inr (.inr (([]:List View),M.2))))) (ay (λk:(Int×(List View))=>ab (ah k.1 (M.1.length:Int)) (aa (au M.1 k.1) λO=>aa (vX (N.1,O)) λB=>ab (!(aA B.2 0)) (some (.inr (.inr (.inr (.inr (([]:List View),B.2)))))) (ae (decide ((List.append k.2 (B.1::([]:List View))).length*32<=140737488355328/\(List.append k.2 (B.1::([]:List View))).length<=9223372036854775807)) <|ae (ai (k.1+1)) <|some (.inl ((k.1+1),(List.append k.2 (B.1::([]:List View))))))) (some (.inr (.inl k.2)))) (0,j.2))) λ(G:(List View))=>ae (ai (j.1+1)) <|some (.inl ((j.1+1),G))) (some (.inr (.inl j.2)))) (0,([]:List View))) λ(j:(List View))=>some (j,0))
def Fs:(View×dB)->Option Bool:=λ(j,k)=>aa (wC (k.score,j)) λB=>some (!B)
def Fq:((List View)×dB)->Option Int:=λ(k,B)=>aQ (ay (λj:Int=>ab (ah j (k.length:Int)) (aa (au k j) λF=>aa (Fs (F,B)) λG=>ab G (some (.inr (.inr j))) (ae (ai (j+1)) <|some (.inl (j+1)))) (some (.inr (.inl ())))) 0) λ(j:Unit)=>some (-1)
def wz:((List View)×dB)->Option Bool:=λ(j,k)=>aa (Fq (j,k)) λB=>some (leI 0 B)
def vY:(List View)->Option (View×Int):=λ(k)=>aa (ab (ah (k.length:Int) 1) (some true) (ab (ah 100 (k.length:Int)) (some true) (aa (AA (k,())) λY=>some Y))) λ(Y:Bool)=>ab Y (some ((⟨0,([]:List aL)⟩:View),1)) (aa (Fe (k,k)) λad=>ab ad (some ((⟨0,([]:List aL)⟩:View),6)) (aa (au k 0) λaf=>aQ (aa (au k 0) λO=>ay (λj:(Int×(Int×(List aL)))=>ab (ah j.2.1 (O.bh.length:Int)) (aa (au O.bh j.2.1) λB=>aQ (ay (λG:(Int×(List (Int×Written)))=>ab (ah G.1 (k.length:Int)) (aQ (aa (au k G.1) λU=>aa (au U.bh j.2.1) λM=>ay (λF:(Int×(List (Int×Written)))=>ab (ah F.1 (M.notes.length:Int)) (aa (au M.notes F.1) λN=>aa (ab (dq F.2 N.id) (some (!(sw (an F.2 N.id (⟨0,0,0,(⟨0,0⟩:Rat),(⟨0,0⟩:Rat),(⟨0,0,0⟩:aP)⟩:Written)) N))) (some false)) λ(Z:Bool)=>ab Z (some (.inr (.inr (.inr (.inr (.inr (.inr ((⟨0,([]:List aL)⟩:View),5)))))))) (ae (ai (F.1+1)) <|some (.inl ((F.1+1),(aH F.2 N.id N))))) (some (.inr (.inl F.2)))) (0,G.2)) λ(U:(List (Int×Written)))=>ae (ai (G.1+1)) <|some (.inl ((G.1+1),U))) (some (.inr (.inl G.2)))) (0,([]:List (Int×Written)))) λ(G:(List (Int×Written)))=>aa (ET G) λU=>aa (rE (U,())) λM=>ae (ai (j.1+(M.length:Int))) <|ae (decide ((List.append j.2.2 ((⟨B.az,B.key,B.length,M⟩:aL)::([]:List aL))).length*56<=140737488355328/\(List.append j.2.2 ((⟨B.az,B.key,B.length,M⟩:aL)::([]:List aL))).length<=9223372036854775807)) <|ae (ai (j.2.1+1)) <|some (.inl ((j.1+(M.length:Int)),((j.2.1+1),(List.append j.2.2 ((⟨B.az,B.key,B.length,M⟩:aL)::([]:List aL))))))) (some (.inr (.inl (j.1,j.2.2))))) (0,(0,([]:List aL)))) λ(O:(Int×(List aL)))=>ab (ah 20000 O.1) (some ((⟨0,([]:List aL)⟩:View),2)) (some ((⟨af.part,O.2⟩:View),0))))
def oy:(dB×(Room×(List View)))->Option ((List aw)×Int):=λ(O,Y,af)=>ab (ah 2400 (af.length:Int)) (some (([]:List aw),2)) (aa (rA Y.form) λak=>aa (lY ((⟨0,([]:List aL)⟩:View),Y.bA)) λar=>aa (ab (!(aA ak.2 0)) (some true) (ab (!(aA ar.2 0)) (some true) (aa (ox O.score) λal=>ab (!al) (some true) (ab (!(aA Y.version O.score.version)) (some true) (some (!(aA Y.form.bars (O.score.bars.length:Int)))))))) λ(al:Bool)=>ab al (some (([]:List aw),1)) (aa (wz (af,O)) λav=>ab av (some (([]:List aw),1)) (aa (ay (λG:(Int×(List (Int×(List View))))=>ab (ah G.1 (af.length:Int)) (aa (au af G.1) λk=>ae (decide ((List.append (an G.2 k.part ([]:List View)) (k::([]:List View))).length*32<=140737488355328/\(List.append (an G.2 k.part ([]:List View)) (k::([]:List View))).length<=9223372036854775807)) <|ae (ai (G.1+1)) <|some (.inl ((G.1+1),(aH G.2 k.part (List.append (an G.2 k.part ([]:List View)) (k::([]:List View))))))) (some (.inr G.2))) (0,([]:List (Int×(List View))))) λ(G:(List (Int×(List View))))=>aQ (ay (λk:(Int×(List aw))=>ab (ah k.1 (O.score.parts.length:Int)) (aQ (aa (au O.score.parts k.1) λU=>ab (aA ((an G U.id ([]:List View)).length:Int) 0) (some (.inl k.2)) (aa (vY (an G U.id ([]:List View))) λag=>aa (ab (aA ag.2 0) (aa (aa (lY (ag.1,Y.bA)) λN=>ab (!(aA N.2 0)) (some (k.2,N.2)) (aa (rG (O.score,N.1)) λad=>ab (!(aA ad.2 0)) (some (k.2,ad.2)) (aa (ay (λF:(Int×(List (Int×(List aq))))=>ab (ah F.1 (ad.1.length:Int)) (aa (au ad.1 F.1) λj=>ae (decide ((List.append (an F.2 j.az ([]:List aq)) (j::([]:List aq))).length*96<=140737488355328/\(List.append (an F.2 j.az ([]:List aq)) (j::([]:List aq))).length<=9223372036854775807)) <|ae (ai (F.1+1)) <|some (.inl ((F.1+1),(aH F.2 j.az (List.append (an F.2 j.az ([]:List aq)) (j::([]:List aq))))))) (some (.inr F.2))) (0,([]:List (Int×(List aq))))) λ(F:(List (Int×(List aq))))=>aQ (ay (λj:(Int×((List aw)×(Int×Int)))=>ab (ah j.1 (ak.1.length:Int)) (aa (au ak.1 j.1) λao=>aa (au O.score.bars ao.az) λaj=>aQ (ay (λM:(Int×(List aw))=>ab (ah M.1 ((an F aj.id ([]:List aq)).length:Int)) (aa (au (an F aj.id ([]:List aq)) M.1) λB=>aa (fg ((⟨j.2.2.1,j.2.2.2⟩:Rat),B.start)) λZ=>ab (!(aA Z.2 0)) (some (.inr (.inr (.inr (.inr (M.2,Z.2)))))) (ae (decide ((List.append M.2 ((⟨B.part,Z.1,B.length,B.aR⟩:aw)::([]:List aw))).length*64<=140737488355328/\(List.append M.2 ((⟨B.part,Z.1,B.length,B.aR⟩:aw)::([]:List aw))).length<=9223372036854775807)) <|ae (ai (M.1+1)) <|some (.inl ((M.1+1),(List.append M.2 ((⟨B.part,Z.1,B.length,B.aR⟩:aw)::([]:List aw))))))) (some (.inr (.inl M.2)))) (0,j.2.1)) λ(M:(List aw))=>aa (fg ((⟨j.2.2.1,j.2.2.2⟩:Rat),aj.length)) λB=>ae (ai (j.1+1)) <|some (.inl ((j.1+1),(M,(B.1.n,B.1.d))))) (some (.inr (.inl j.2.1)))) (0,(k.2,(0,1)))) λ(j:(List aw))=>some (j,0)))) λ(N:((List aw)×Int))=>some (N.2,N.1)) (some (ag.2,k.2))) λ(N:(Int×(List aw)))=>ab (!(aA N.1 0)) (some (.inr (.inr (.inr (([]:List aw),N.1))))) (some (.inl N.2)))) λ(U:(List aw))=>ae (ai (k.1+1)) <|some (.inl ((k.1+1),U))) (some (.inr (.inl k.2)))) (0,([]:List aw))) λ(k:(List aw))=>aa (rD (k,())) λU=>some (U,0))))
end Go.Proofs.YthhlipkkjippfaaGreatDoor
namespace Go.Proofs.YthhlipkkjippfaaGreatDoor
open Go Go.ag Go.Sy
attribute [local instance] lU
set_option maxRecDepth 100000
def PK:=Cd [.list (.st 1),.list (.st 5)] [.list (.st 5)] zK [HC] [xg] ⟨U7,trivial⟩ Tryz.func204
def PG:=bk [.list (.st 1),.list (.st 5)] [.list (.st 5),tI] zG [HB,PK] Tryz.func114
def uL:=bk [.st 6] [.bool] ox [HS,BZ,QH,HB,QP,PG,Q6] Tryz.func45
def QG:=bk [.st 6,tI] [.list (.st 5),tI] An [uL,QK,QN] Tryz.func68
def B8:=bk [.st 6,tI] [.st 18,tI] rF [QG,B9,Ru,HW] Tryz.func33
def HV:=bk [.st 6,.st 18] [.bool] wC [uL,B9,HW,Rk,Rr] Tryz.func41
def HU:=bk [.st 6,.st 18] [.list (.st 5),tI] rG [HV,B9,Pm] Tryz.func71
def xQ:=Cd [.st 13,.st 14] [.list (.st 15),tI] lf [B6,HA,uL,B8,HU,xO] [uz] ⟨Kg,trivial⟩ Tryz.func11
def O6:=bk [.st 18] [.list tI,tI] zp [xL,Px,Rm] Tryz.func116
def OZ:=bk [.st 18,tI] [.list tI,tI] zn [O6] Tryz.func46
def HT:=bk [.st 13] [.list (.st 18),tI] tZ [uL,B8,OZ,O0] Tryz.func16
def Rn:=bk [.st 18,.box (.st 13)] [.bool] Fs [HV] Tryz.func40
def Rj:=bk [.list (.st 18),.aB 40 (.box (.st 13))] [tI] Fq [Rn] Tryz.func89
def Q2:=bk [.list (.st 18),.aB 40 (.box (.st 13))] [.bool] wz [Rj] Tryz.func39
def O2:=bk [.list (.st 18)] [.st 18,tI] vY [Q0,Q1,Py,Rl] Tryz.func42
def B7:=Cd [.st 13,.st 14,.list (.st 18)] [.list (.st 15),tI] oy [B6,HA,uL,Q2,O2,HU,xO] [uz] ⟨Kg,trivial⟩ Tryz.func14
end Go.Proofs.YthhlipkkjippfaaGreatDoor
namespace Go.Proofs.YthhlipkkjippfaaGreatDoor
open Go Go.ag Go.Sy
def ot:Unit->Option Bool:=λ()=>aa (ES ()) λj=>aa (lf (j.1,j.2)) λad=>aa (tZ j.1) λZ=>aa (oy (j.1,(j.2,Z.1))) λaf=>aa (lf (j.1,(⟨j.2.version,(⟨j.2.form.bars,j.2.form.aX,j.2.form.bz,j.2.form.jump,((⟨0,1,1⟩:Cut)::([]:List Cut))⟩:Form),j.2.bA⟩:Room))) λag=>aa (lf (j.1,(⟨2,j.2.form,j.2.bA⟩:Room))) λaj=>aa (ab (aA ad.2 0) (ab (aA Z.2 0) (ab (aA af.2 0) (ab (aA ag.2 0) (ab (aA aj.2 1) (some (aA (Z.1.length:Int) 3)) (some false)) (some false)) (some false)) (some false)) (some false)) λ(ak:Bool)=>aa (kh (0,1)) λN=>aa (kh (1,1)) λO=>aa (kh (0,1)) λU=>aa (kh (1,1)) λk=>aa (kh (4,1)) λB=>aa (kh (1,1)) λF=>aa (kh (4,1)) λG=>aa (kh (1,1)) λM=>aa (ab ak (aa (l4 (ad.1,((⟨1,N,O,(⟨0,0,4⟩:aP)⟩:aw)::((⟨2,U,k,(⟨0,0,5⟩:aP)⟩:aw)::((⟨1,B,F,(⟨0,0,4⟩:aP)⟩:aw)::((⟨2,G,M,(⟨0,0,5⟩:aP)⟩:aw)::([]:List aw))))))) λY=>ab Y (aa (l4 (af.1,((⟨1,N,O,(⟨0,0,4⟩:aP)⟩:aw)::((⟨2,U,k,(⟨0,0,5⟩:aP)⟩:aw)::((⟨1,B,F,(⟨0,0,4⟩:aP)⟩:aw)::((⟨2,G,M,(⟨0,0,5⟩:aP)⟩:aw)::([]:List aw))))))) λah=>ab ah (ae ((leI 0 2)&&(leI 2 (((⟨1,N,O,(⟨0,0,4⟩:aP)⟩:aw)::((⟨2,U,k,(⟨0,0,5⟩:aP)⟩:aw)::((⟨1,B,F,(⟨0,0,4⟩:aP)⟩:aw)::((⟨2,G,M,(⟨0,0,5⟩:aP)⟩:aw)::([]:List aw))))).length:Int))) <|aa (l4 (ag.1,(List.take (Int.toNat 2) ((⟨1,N,O,(⟨0,0,4⟩:aP)⟩:aw)::((⟨2,U,k,(⟨0,0,5⟩:aP)⟩:aw)::((⟨1,B,F,(⟨0,0,4⟩:aP)⟩:aw)::((⟨2,G,M,(⟨0,0,5⟩:aP)⟩:aw)::([]:List aw)))))))) λai=>some ai) (some false)) (some false)) (some false)) λ(Y:Bool)=>some Y
def zE:(Score×Int)->Option ((List View)×((List (Int×Bool))×Bool)):=λ(F,G)=>aQ (ay (λj:(Int×((List View)×(List (Int×Bool))))=>ab (ah j.1 (F.parts.length:Int)) (aQ (aa (au F.parts j.1) λk=>ae (leI 0 j.1) <|ab (aA (qp .u8 (pW .u8 G j.1) 1) 0) (some (.inl (j.2.1,j.2.2))) (aa (rF (F,k.id)) λB=>ab (!(aA B.2 0)) (some (.inr (.inr (.inr (([]:List View),(([]:List (Int×Bool)),false)))))) (ae (decide ((List.append j.2.1 (B.1::([]:List View))).length*32<=140737488355328/\(List.append j.2.1 (B.1::([]:List View))).length<=9223372036854775807)) <|some (.inl ((List.append j.2.1 (B.1::([]:List View))),(aH j.2.2 k.id true)))))) λ(k:((List View)×(List (Int×Bool))))=>ae (ai (j.1+1)) <|some (.inl ((j.1+1),(k.1,k.2)))) (some (.inr (.inl (j.2.1,j.2.2))))) (0,(([]:List View),([]:List (Int×Bool))))) λ(j:((List View)×(List (Int×Bool))))=>some (j.1,(j.2,true))
def zD:(dB×Room)->Option Bool:=λ(j,F)=>aa (ot ()) λG=>aa (tM (j,F)) λO=>ab (!O) (some G) (aa (tZ j) λk=>ab (!(aA k.2 0)) (aa (ab G (ab (aA k.2 6) (some (aA (k.1.length:Int) 0)) (some false)) (some false)) λ(B:Bool)=>some B) (aa (oy (j,(F,k.1))) λB=>aa (lf (j,F)) λN=>aa (ab G (ab (aA B.2 0) (ab (aA N.2 0) (aa (l4 (B.1,N.1)) λM=>some M) (some false)) (some false)) (some false)) λ(M:Bool)=>some M))
def zB:(dB×(Room×(Int×Int)))->Option Bool:=λ(G,M,af,ag)=>aa (ot ()) λZ=>aa (tM (G,M)) λaj=>ab (!aj) (some Z) (aa (zE (G.score,af)) λk=>ab (!k.2.2) (some false) (aa (oy (G,(M,k.1))) λO=>aa (lf (G,M)) λU=>aa (ay (λB:(Int×(List aw))=>ab (ah B.1 (U.1.length:Int)) (aa (aa (au U.1 B.1) λj=>ab (an k.2.1 j.part false) (ae (decide ((List.append B.2 (j::([]:List aw))).length*64<=140737488355328/\(List.append B.2 (j::([]:List aw))).length<=9223372036854775807)) <|some (List.append B.2 (j::([]:List aw)))) (some B.2)) λ(j:(List aw))=>ae (ai (B.1+1)) <|some (.inl ((B.1+1),j))) (some (.inr B.2))) (0,([]:List aw))) λ(B:(List aw))=>aa (ay (λj:(Int×(List View))=>ab (ah j.1 (k.1.length:Int)) (ae (ai ((k.1.length:Int)-1)) <|ae (ai (((k.1.length:Int)-1)-j.1)) <|aa (au k.1 (((k.1.length:Int)-1)-j.1)) λF=>ae (decide ((List.append j.2 (F::([]:List View))).length*32<=140737488355328/\(List.append j.2 (F::([]:List View))).length<=9223372036854775807)) <|ae (ai (j.1+1)) <|some (.inl ((j.1+1),(List.append j.2 (F::([]:List View)))))) (some (.inr j.2))) (0,([]:List View))) λ(j:(List View))=>aa (ab (ah 0 (k.1.length:Int)) (ae (!(aA (k.1.length:Int) 0)) <|aa (au k.1 (Int.tmod (IntKind.wrap .i64 ag) (k.1.length:Int))) λF=>ae (decide ((List.append j (F::([]:List View))).length*32<=140737488355328/\(List.append j (F::([]:List View))).length<=9223372036854775807)) <|some (List.append j (F::([]:List View)))) (some j)) λ(F:(List View))=>aa (oy (G,(M,F))) λY=>aa (ab Z (ab (aA O.2 0) (ab (aA U.2 0) (ab (aA Y.2 0) (aa (l4 (O.1,B)) λN=>ab N (aa (l4 (O.1,Y.1)) λad=>some ad) (some false)) (some false)) (some false)) (some false)) (some false)) λ(N:Bool)=>some N))
def zC:(dB×Room)->Option Bool:=λ(G,N)=>aa (ot ()) λY=>aa (tM (G,N)) λaf=>ab (!af) (some Y) (aa (lf (G,N)) λO=>aa (rA N.form) λU=>aa (ab (!(aA O.2 0)) (some true) (some (!(aA U.2 0)))) λ(ad:Bool)=>ab ad (some false) (aa (kh (0,1)) λZ=>aa (ay (λk:(Bool×(Int×(Int×Int)))=>ab (ah k.2.1 (U.1.length:Int)) (aa (au U.1 k.2.1) λj=>ae (ai (j.az+1)) <|ae ((leI 0 j.az)&&((leI j.az (j.az+1))&&(leI (j.az+1) (G.score.bars.length:Int)))) <|aa (zF (List.drop (Int.toNat j.az) (List.take (Int.toNat (j.az+1)) G.score.bars))) λB=>aa (fg ((⟨k.2.2.1,k.2.2.2⟩:Rat),B.1)) λF=>aa (ab k.1 (ab (aA B.2 0) (some (aA F.2 0)) (some false)) (some false)) λ(M:Bool)=>ae (ai (k.2.1+1)) <|some (.inl (M,((k.2.1+1),(F.1.n,F.1.d))))) (some (.inr (k.1,(k.2.2.1,k.2.2.2))))) (Y,(0,(Z.n,Z.d)))) λ(k:(Bool×(Int×Int)))=>aa (ay (λj:(Bool×Int)=>ab (ah j.2 (O.1.length:Int)) (aa (aa (au O.1 j.2) λB=>aa (fg (B.start,B.length)) λF=>aa (pO (F.1,(⟨k.2.1,k.2.2⟩:Rat))) λM=>ab j.1 (ab (aA F.2 0) (ab (aA M.2 0) (ab (leI M.1 0) (some (leI 0 B.start.n)) (some false)) (some false)) (some false)) (some false)) λ(B:Bool)=>ae (ai (j.2+1)) <|some (.inl (B,(j.2+1)))) (some (.inr j.1))) (k.1,0)) λ(j:Bool)=>some j))
end Go.Proofs.YthhlipkkjippfaaGreatDoor
namespace Go.Proofs.YthhlipkkjippfaaGreatDoor
open Go Go.ag Go.Sy
attribute [local instance] lU
set_option maxRecDepth 100000
def BW:=bk [] [.bool] ot [Pv,xQ,HT,B7,BX,B4] Tryz.func8
def Pw:=bk [.st 6,.int .u8] [.list (.st 18),.map tI (.bool),.bool] zE [B8] Tryz.func20
def Pu:=bk [.st 13,.st 14] [.bool] zD [BW,BY,HT,B7,xQ,B4] Tryz.func4
def Ps:=bk [.st 13,.st 14,.int .u8,.int .u8] [.bool] zB [BW,BY,Pw,B7,xQ,B4] Tryz.func5
def Pt:=bk [.st 13,.st 14] [.bool] zC [BW,BY,xQ,B6,BX,Pz,xO,xP] Tryz.func7
end Go.Proofs.YthhlipkkjippfaaGreatDoor
end
