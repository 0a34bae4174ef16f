import Derived.Test.YtioaemdeeebgcaaGreatDoorX7
set_option linter.all false
namespace Go.Proofs.YtioaemdeeebgcaaGreatDoor
open Go Go.af Go.Sy
attribute [local instance] jB
set_option maxRecDepth 100000
theorem MT:rf.r.e 1000 ()=some true:=by kernel_rfl
noncomputable def Ke:Bk:=⟨rf.r.c,rf.k⟩
noncomputable def yk:Unit→Option Bool:=rf.r.c.fn
theorem head_eq:yk ()=some true:=rf.r.ok 1000 () true MT
noncomputable def DJ:List Int→Option (List Int):=kE
end Go.Proofs.YtioaemdeeebgcaaGreatDoor
namespace Go.Proofs.YtioaemdeeebgcaaGreatDoor
open Go Go.af Go.Sy
noncomputable def DI:aJ→Option Bool:=λ(j)=>some (aB (j.events.length:Int) 30)
noncomputable def uv:(List aJ)→Option Bool:=λ(k)=>aT (cd (λj:Int=>aa (ab (ai j (k.length:Int)) (some (ai j 9)) (some false)) λ(B:Bool)=>ab B (aa (aA k j) λF=>aa (DI F) λG=>ab (!G) (some (.inr (.inr false))) (ag (an (j+1)) <|some (.inl (j+1)))) (some (.inr (.inl ())))) 0) λ(j:Unit)=>some (aB (k.length:Int) 8)
noncomputable def nK:(Int×(Int×Int))→Option Bool:=λ(j,k,B)=>aa (ab (aB k j) (some (aB j B)) (some false)) λ(F:Bool)=>some F
noncomputable def uB:Reader→Option Bool:=λ(j)=>aa (aa (nK (j.part,(1,1000000))) λk=>ab k (aa (nK (j.gg,(1,40))) λB=>ab B (aa (nK (j.gM,(1,4))) λF=>some F) (some false)) (some false)) λ(k:Bool)=>some k
noncomputable def ym:Unit→Option (List (Int×dA)):=λ()=>some (bc (bc (bc (bc ([]:List (Int×dA)) 1 (⟨(1:Nat),(1:Nat)⟩:dA)) 2 (⟨(2:Nat),(2:Nat)⟩:dA)) 3 (⟨(3:Nat),(3:Nat)⟩:dA)) 4 (⟨(4:Nat),(4:Nat)⟩:dA))
noncomputable def ma:(Int×(Int×Int))→Option Bool:=λ(j,k,B)=>aa (ab (aB k j) (some (aB j B)) (some false)) λ(F:Bool)=>some F
noncomputable def nJ:Int→Option Bool:=λ(j)=>aa (ma (j,(1,1000000))) λk=>some k
noncomputable def qR:Reader→Option Bool:=λ(j)=>aa (aa (nJ j.part) λk=>ab k (aa (ma (j.gg,(1,40))) λB=>ab B (aa (ma (j.gM,(1,4))) λF=>some F) (some false)) (some false)) λ(k:Bool)=>some k
noncomputable def uq:Reader→Option Bool:=λ(j)=>aa (ab (aj j.gM 0) (aa (qR (⟨j.part,j.gg,1⟩:Reader)) λk=>some k) (some false)) λ(k:Bool)=>some k
noncomputable def ur:Reader→Option Bool:=λ(j)=>aa (ab (aj j.gg 0) (ab (aj j.gM 0) (aa (ma (j.part,(0,99))) λk=>some k) (some false)) (some false)) λ(k:Bool)=>some k
noncomputable def DH:Reader→Option Bool:=λ(j)=>some (A3 j (⟨0,0,0⟩:Reader))
noncomputable def yl:Int→Option Bool:=λ(j)=>aa (ab (ai j 32) (some true) (some (ai 126 j))) λ(k:Bool)=>some k
noncomputable def yp:((List Int)×Unit)→Option Int:=λ(k,G)=>aT (cd (λj:Int=>ab (ai j (k.length:Int)) (aa (aA k j) λB=>aa (yl B) λF=>ab F (some (.inr (.inr j))) (ag (an (j+1)) <|some (.inl (j+1)))) (some (.inr (.inl ())))) 0) λ(j:Unit)=>some (-1)
noncomputable def uA:((List Int)×Unit)→Option Bool:=λ(j,k)=>aa (yp (j,k)) λB=>some (aB 0 B)
noncomputable def uo:Mark→Option Bool:=λ(j)=>aa (ym ()) λB=>aa (ab (!(dO B j.gD)) (some true) (aa (ab (aj (Int.ofNat (aZ B j.gD (⟨(0:Nat),(0:Nat)⟩:dA)).fK) 1) (aa (qR j.gd) λk=>some k) (ab (aj (Int.ofNat (aZ B j.gD (⟨(0:Nat),(0:Nat)⟩:dA)).fK) 2) (aa (uq j.gd) λk=>some k) (ab (aj (Int.ofNat (aZ B j.gD (⟨(0:Nat),(0:Nat)⟩:dA)).fK) 3) (aa (ur j.gd) λk=>some k) (ag (aj (Int.ofNat (aZ B j.gD (⟨(0:Nat),(0:Nat)⟩:dA)).fK) 4) <|aa (DH j.gd) λk=>some k)))) λ(k:Bool)=>ab (!k) (some true) (aa (nJ j.id) λG=>ab (!G) (some true) (aa (nJ j.version) λF=>ab (!F) (some true) (aa (nJ j.note) λM=>ab (!M) (some true) (aa (ma (j.kind,(1,5))) λO=>some (!O))))))) λ(k:Bool)=>ab k (some false) (aa (ab (aj j.kind 1) (some 2) (some 1000)) λ(G:Int)=>aa (aa (ma (j.value,(0,G))) λF=>ab F (ab (aB (j.text.size:Int) 200) (ag (aB (j.text.size:Int) 16777216) <|aa (uA ((kC j.text),())) λM=>some (!M)) (some false)) (some false)) λ(F:Bool)=>some F)
noncomputable def qP:(Int×(Int×Int))→Option Bool:=λ(j,k,B)=>aa (ab (aB k j) (some (aB j B)) (some false)) λ(F:Bool)=>some F
noncomputable def pd:Int→Option Bool:=λ(j)=>aa (qP (j,(1,1000000))) λk=>some k
noncomputable def uk:Event→Option Bool:=λ(j)=>aa (ab (aj j.kind 1) (ab (aj j.n 0) (aa (uo j.mark) λk=>some k) (some false)) (ab (aj j.kind 2) (ab (sq j.mark (⟨0,0,0,(⟨0,0,0⟩:Reader),0,0,0,(⟨⟨[]⟩⟩:ByteArray)⟩:Mark)) (aa (pd j.n) λk=>some k) (some false)) (ab (aj j.kind 3) (ab (sq j.mark (⟨0,0,0,(⟨0,0,0⟩:Reader),0,0,0,(⟨⟨[]⟩⟩:ByteArray)⟩:Mark)) (aa (qP (j.n,(0,1000))) λk=>some k) (some false)) (some false)))) λ(k:Bool)=>aa (ab k (aa (qP (j.clock,(0,1000000000))) λB=>ab B (aa (pd j.dn) λF=>some F) (some false)) (some false)) λ(B:Bool)=>some B
noncomputable def ui:Int→Option Bool:=λ(j)=>some (!(aj j j))
noncomputable def qN:(Int×Int)→Option Int:=λ(j,k)=>aa (ui j) λF=>aa (ui k) λB=>ab F (ab B (some 0) (some (-1))) (ab B (some 1) (ab (ai j k) (some (-1)) (ab (ai k j) (some 1) (some 0))))
noncomputable def uh:(List Int)→Option Int:=λ(k)=>aT (cd (λj:Int=>ab (ai j (k.length:Int)) (aa (aA k j) λB=>ab (!(aj B 0)) (some (.inr (.inr B))) (ag (an (j+1)) <|some (.inl (j+1)))) (some (.inr (.inl ())))) 0) λ(j:Unit)=>some 0
noncomputable def um:(Event×Event)→Option Int:=λ(j,k)=>aa (qN (j.clock,k.clock)) λB=>aa (qN (j.dn,k.dn)) λF=>aa (uh (B::(F::([]:List Int)))) λG=>some G
noncomputable def uj:(List Event)→Option Bool:=λ(k)=>aT (cd (λj:Int=>ab (ai j (k.length:Int)) (aa (aA k j) λB=>aa (aa (uk B) λF=>ab (!F) (some true) (ab (ai 0 j) (ag (an (j-1)) <|aa (aA k (j-1)) λG=>aa (um (G,B)) λM=>some (aB 0 M)) (some false))) λ(F:Bool)=>ab F (some (.inr (.inr false))) (ag (an (j+1)) <|some (.inl (j+1)))) (some (.inr (.inl ())))) 0) λ(j:Unit)=>some (aB (k.length:Int) 20000)
noncomputable def qO:((List Event)×Int)→Option (Int×Int):=λ(B,F)=>aa (aa (uj B) λG=>ab (!G) (some true) (aa (pd F) λj=>some (!j))) λ(G:Bool)=>ab G (some (0,1)) (aa (cd (λj:(Int×Int)=>ab (ai j.2 (B.length:Int)) (aa (aa (aA B j.2) λk=>aa (ab (aj k.kind 3) (some (aj k.dn F)) (some false)) λ(M:Bool)=>ab M (some (max j.1 k.n)) (some j.1)) λ(k:Int)=>ag (an (j.2+1)) <|some (.inl (k,(j.2+1)))) (some (.inr j.1))) (0,0)) λ(j:Int)=>some (j,0))
noncomputable def kv:aJ→Option Bool:=λ(j)=>aa (aa (nK (j.dR,(1,1000000))) λB=>ab (!B) (some true) (aa (uB j.reader) λk=>ab (!k) (some true) (aa (nK (j.known,(0,1000))) λF=>some (!F)))) λ(B:Bool)=>ab B (some false) (aa (qO (j.events,j.id)) λk=>aa (ab (aj k.2 0) (some (aB k.1 j.known)) (some false)) λ(F:Bool)=>some F)
noncomputable def ux:(aJ×Int)→Option Bool:=λ(j,B)=>aa (ab (ai B j.known) (some true) (aa (kv j) λk=>some (!k))) λ(k:Bool)=>some k
noncomputable def yo:((List aJ)×Int)→Option Int:=λ(k,B)=>aT (cd (λj:Int=>ab (ai j (k.length:Int)) (aa (aA k j) λF=>aa (ux (F,B)) λG=>ab G (some (.inr (.inr j))) (ag (an (j+1)) <|some (.inl (j+1)))) (some (.inr (.inl ())))) 0) λ(j:Unit)=>some (-1)
noncomputable def uz:((List aJ)×Int)→Option Bool:=λ(j,k)=>aa (yo (j,k)) λB=>some (aB 0 B)
noncomputable def uw:((List aJ)×Int)→Option Bool:=λ(k,F)=>aa (cd (λj:(Int×(List (Int×Bool)))=>ab (ai j.1 (k.length:Int)) (aa (aA k j.1) λB=>ag (an (j.1+1)) <|some (.inl ((j.1+1),(bc j.2 B.id true)))) (some (.inr j.2))) (0,([]:List (Int×Bool)))) λ(j:(List (Int×Bool)))=>aa (ab (aj (j.length:Int) (k.length:Int)) (aa (uz (k,F)) λB=>some (!B)) (some false)) λ(B:Bool)=>some B
noncomputable def qS:((List Decision)×(List aJ))→Option ((List Int)×Int):=λ(F,G)=>ab (ai 200 (G.length:Int)) (some (([]:List Int),2)) (aT (cd (λk:Int=>ab (ai k (F.length:Int)) (aa (aA F k) λM=>ag (an (k+1)) <|ab (!(aj M.number (k+1))) (some (.inr (.inr (([]:List Int),1)))) (ag (an (k+1)) <|some (.inl (k+1)))) (some (.inr (.inl ())))) 0) λ(k:Unit)=>aa (ab (ai 1000 (F.length:Int)) (some true) (aa (uw (G,(F.length:Int))) λM=>some (!M))) λ(M:Bool)=>ab M (some (([]:List Int),1)) (aa (cd (λj:(Int×(List Int))=>ab (ai j.1 (G.length:Int)) (aa (aA G j.1) λB=>aa (ab (ai B.known (F.length:Int)) (ag (decide ((List.append j.2 (B.id::([]:List Int))).length*8≤140737488355328∧(List.append j.2 (B.id::([]:List Int))).length≤9223372036854775807)) <|some (List.append j.2 (B.id::([]:List Int)))) (some j.2)) λ(O:(List Int))=>ag (an (j.1+1)) <|some (.inl ((j.1+1),O))) (some (.inr j.2))) (0,([]:List Int))) λ(j:(List Int))=>aa (DJ j) λB=>some (B,0)))
noncomputable def qQ:((List Decision)×(List aJ))→Option Bool:=λ(G,M)=>aa (yk ()) λY=>aa (ab (ai 30 (G.length:Int)) (some true) (aa (uv M) λZ=>some (!Z))) λ(Z:Bool)=>ab Z (some Y) (aa (qS (G,M)) λO=>ab (!(aj O.2 0)) (aa (ab Y (some (aj (O.1.length:Int) 0)) (some false)) λ(k:Bool)=>some k) (aa (cd (λk:(Int×(Int×(List aJ)))=>ab (ai k.2.1 (M.length:Int)) (aa (aA M k.2.1) λj=>aa (ab (ai j.known (G.length:Int)) (ag (an (k.1+1)) <|some (k.1+1)) (some k.1)) λ(F:Int)=>ag (decide ((List.append k.2.2 ((⟨j.id,j.reader,j.dR,(G.length:Int),j.events⟩:aJ)::([]:List aJ))).length*72≤140737488355328∧(List.append k.2.2 ((⟨j.id,j.reader,j.dR,(G.length:Int),j.events⟩:aJ)::([]:List aJ))).length≤9223372036854775807)) <|ag (an (k.2.1+1)) <|some (.inl (F,((k.2.1+1),(List.append k.2.2 ((⟨j.id,j.reader,j.dR,(G.length:Int),j.events⟩:aJ)::([]:List aJ))))))) (some (.inr (k.1,k.2.2)))) (0,(0,([]:List aJ)))) λ(k:(Int×(List aJ)))=>aa (cd (λj:(Bool×Int)=>ab (ai j.2 (O.1.length:Int)) (aa (aa (aA O.1 j.2) λF=>aa (cd (λB:(Bool×Int)=>ab (ai B.2 (M.length:Int)) (aa (aa (aA M B.2) λU=>ab B.1 (some true) (ab (aj U.id F) (some (ai U.known (G.length:Int))) (some false))) λ(U:Bool)=>ag (an (B.2+1)) <|some (.inl (U,(B.2+1)))) (some (.inr B.1))) (false,0)) λ(B:Bool)=>ab j.1 (ab B (ab (aj j.2 0) (some true) (ag (an (j.2-1)) <|aa (aA O.1 (j.2-1)) λU=>some (ai U F))) (some false)) (some false)) λ(F:Bool)=>ag (an (j.2+1)) <|some (.inl (F,(j.2+1)))) (some (.inr j.1))) (Y,0)) λ(j:Bool)=>aa (qS (G,k.2)) λF=>aa (ab j (ab (aj F.2 0) (ab (aj k.1 (O.1.length:Int)) (some (aj (F.1.length:Int) 0)) (some false)) (some false)) (some false)) λ(B:Bool)=>some B))
end Go.Proofs.YtioaemdeeebgcaaGreatDoor
namespace Go.Proofs.YtioaemdeeebgcaaGreatDoor
open Go Go.af Go.Sy
attribute [local instance] jB
set_option maxRecDepth 100000
noncomputable def Kl:=bk [.st 3] [.bool] DI [] Tryz.func13
noncomputable def Km:=bk [.list (.st 3)] [.bool] uv [Kl] Tryz.func5
noncomputable def A2:=bk [tI,tI,tI] [.bool] nK [] Tryz.func58
noncomputable def Kw:=bk [.st 0] [.bool] uB [A2] Tryz.func59
noncomputable def Kh:=bk [] [.map tI (.st 44)] ym [] Tryz.func339
noncomputable def sk:=bk [tI,tI,tI] [.bool] ma [] Tryz.func342
noncomputable def AY:=bk [tI] [.bool] nJ [sk] Tryz.func341
noncomputable def AZ:=bk [.st 0] [.bool] qR [AY,sk] Tryz.func361
noncomputable def Ki:=bk [.st 0] [.bool] uq [AZ] Tryz.func363
noncomputable def Kj:=bk [.st 0] [.bool] ur [sk] Tryz.func365
noncomputable def Kk:=bk [.st 0] [.bool] DH [] Tryz.func367
noncomputable def Kg:=bk [.int .i32] [.bool] yl [] Tryz.func340
noncomputable def Ku:=bk [.list (.int .i32),.fn 340] [tI] yp [Kg] Tryz.func369
noncomputable def Ks:=bk [.list (.int .i32),.fn 340] [.bool] uA [Ku] Tryz.func343
noncomputable def Kf:=bk [.st 1] [.bool] uo [Kh,AZ,Ki,Kj,Kk,AY,sk,Ks] Tryz.func296
noncomputable def AV:=bk [tI,tI,tI] [.bool] qP [] Tryz.func207
noncomputable def AU:=bk [tI] [.bool] pd [AV] Tryz.func111
noncomputable def Kb:=bk [.st 2] [.bool] uk [Kf,AU,AV] Tryz.func205
noncomputable def J7:=bk [tI] [.bool] ui [] Tryz.func117
noncomputable def JZ:=bk [tI,tI] [tI] qN [J7] Tryz.func297
noncomputable def J6:=bk [.list tI] [tI] uh [] Tryz.func109
noncomputable def Kc:=bk [.st 2,.st 2] [tI] um [JZ,J6] Tryz.func206
noncomputable def Ka:=bk [.list (.st 2)] [.bool] uj [Kb,Kc] Tryz.func110
noncomputable def J9:=bk [.list (.st 2),tI] [tI,tI] qO [Ka,AU] Tryz.func60
noncomputable def Kv:=bk [.st 3] [.bool] kv [A2,Kw,J9] Tryz.func26
noncomputable def Kq:=bk [.st 3,.box tI] [.bool] ux [Kv] Tryz.func25
noncomputable def Kt:=bk [.list (.st 3),.ar 25 (.box tI)] [tI] yo [Kq] Tryz.func61
noncomputable def Kr:=bk [.list (.st 3),.ar 25 (.box tI)] [.bool] uz [Kt] Tryz.func27
noncomputable def Kp:=bk [.list (.st 3),tI] [.bool] uw [Kr] Tryz.func14
noncomputable def Ko:=KG [.list (.st 24),.list (.st 3)] [.list tI,tI] qS [Kp] [pH] ⟨CK,trivial⟩ Tryz.func6
noncomputable def AW:=bk [.list (.st 24),.list (.st 3)] [.bool] qQ [Ke,Km,Ko] Tryz.func3
end Go.Proofs.YtioaemdeeebgcaaGreatDoor
namespace Go.Proofs.YtioaemdeeebgcaaGreatDoor
open Go Go.af Go.Sy
attribute [local instance] jG jB
abbrev En{β:Type}(o:Option β):Prop:=aF o λ_=>True
theorem gX{n:Int}(h: -9223372036854775808≤n∧n≤9223372036854775807):an n=true:=decide_eq_true h
theorem JY{o:Option Bool}(h:∃b,o=some b):En o:=h.imp λb h=>⟨h,trivial⟩
theorem As(n lo hi:Int):nK (n,(lo,hi))=some (decide (lo≤n∧n≤hi)):=Au n lo hi
theorem qA(n lo hi:Int):ma (n,(lo,hi))=some (decide (lo≤n∧n≤hi)):=Au n lo hi
theorem wQ(n lo hi:Int):qP (n,(lo,hi))=some (decide (lo≤n∧n≤hi)):=Au n lo hi
theorem C4(n:Int):nJ n=some (decide (1≤n∧n≤1000000)):=by
 unfold nJ
 rw[qA,cg]
theorem wD(n:Int):pd n=some (decide (1≤n∧n≤1000000)):=by
 unfold pd
 rw[wQ,cg]
theorem CH(r:Reader):∃b,uB r=some b:=by
 unfold uB
 simp only[As,cg,AI]
 exact⟨_,rfl⟩
theorem Dp(r:Reader):∃b,qR r=some b:=by
 unfold qR
 simp only[qA,C4,cg,AI]
 exact⟨_,rfl⟩
theorem ND(r:Reader):En (uq r):=by
 unfold uq
 obtain⟨b,j⟩:=Dp ⟨r.part,r.gg,1⟩
 refine aF.sv (λ_=>?_) λ_=>⟨_,rfl,trivial⟩
 rw[j];exact⟨_,rfl,trivial⟩
theorem NF(r:Reader):En (ur r):=by
 unfold ur
 refine aF.sv (λ_=>aF.sv (λ_=>?_) λ_=>⟨_,rfl,trivial⟩) λ_=>⟨_,rfl,trivial⟩
 rw[qA];exact⟨_,rfl,trivial⟩
theorem SM(s:ByteArray):(kC s).length≤s.size:=by
 have:∀(n i:Nat)(j:Array Value),(Conv.runesFrom s n i j).size≤j.size+n:=by
  intro n
  induction n with
  |zero=>intro i j;exact Nat.le_refl _
  |succ n k=>
   intro i j
   unfold Conv.runesFrom
   split
   ·have:=k (i+(Utf8.decode s i).2) (j.push (.int .i32 (Int.ofNat (Utf8.decode s i).1)))
    simp only[Array.size_push]at this
    exact Nat.le_trans this (by omega)
   omega
 have:=this s.size 0 #[]
 unfold kC
 simpa using this
theorem MX{α:Type}{l:List α}(U:l.length≤1048576){q:α→Option Bool}(F:∀x∈l,En (q x)):En (aT (cd (λj:Int=>ab (ai j (l.length:Int)) (aa (aA l j) λM=>aa (q M) λO=>ab O (some (.inr (.inr j))) (ag (an (j+1)) <|some (.inl (j+1)))) (some (.inr (.inl ())))) 0) λ(j:Unit)=>some (-1:Int)):=by
 refine aF.jn (q:=λ_=>True) (aF.up l.length id (λ_=>True) trivial ⟨by simp,by simp⟩ λz _ k=>?_) (λ_ _=>⟨_,rfl,trivial⟩) λ_ _=>trivial
 refine aF.ab (λh=>aF.at_ ⟨k.1,ju h⟩ λx _ G=>aF.aa (F x G) λb _=>aF.ab (λ_=>⟨_,rfl,trivial⟩) λ_=>?_) λ_=>⟨_,rfl,trivial⟩
 have:=ju h
 have B:=k.1
 simp only[id]at B k
 refine aF.aW (gX (by omega)) λ_=>⟨_,rfl,trivial,by simp only[id];omega,by simp only[id];omega⟩
theorem LB{s:ByteArray}(h:s.size≤200):En (uA (kC s,())):=by
 unfold uA yp
 have:=SM s
 refine aF.aa (MX (by omega) λx _=>?_) λ_ _=>⟨_,rfl,trivial⟩
 unfold yl
 exact aF.sv (λ_=>⟨_,rfl,trivial⟩) λ_=>⟨_,rfl,trivial⟩
theorem lS{c:Bool}{b:Bool}{o:Option Bool}(h:En o):En (ab c (some b) o):=aF.ab (λ_=>⟨_,rfl,trivial⟩) λ_=>h
theorem oC{c:Bool}{b:Bool}{o:Option Bool}(h:En o):En (ab c o (some b)):=aF.ab (λ_=>h) λ_=>⟨_,rfl,trivial⟩
theorem lL{o:Option Bool}(h:En o):En (aa o λv=>some v):=aF.aa h λ_ _=>⟨_,rfl,trivial⟩
def lays:List (Int×dA):=[(1,⟨1,1⟩),(2,⟨2,2⟩),(3,⟨3,3⟩),(4,⟨4,4⟩)]
theorem NG:ym ()=some lays:=by kernel_rfl
theorem NH{n:Int}(h:dO lays n=true):(aZ lays n ⟨0,0⟩).fK=1∨(aZ lays n ⟨0,0⟩).fK=2∨(aZ lays n ⟨0,0⟩).fK=3∨(aZ lays n ⟨0,0⟩).fK=4:=by
 rw[Dj]at h
 simp only[lays,x8,List.map_cons,List.map_nil,List.mem_cons,List.not_mem_nil,or_false]at h
 rcases h with rfl|rfl|rfl|rfl
 ·exact .inl rfl
 ·exact .inr (.inl rfl)
 ·exact .inr (.inr (.inl rfl))
 exact .inr (.inr (.inr rfl))
theorem N2(m:Mark):En (uo m):=by
 unfold uo
 rw[NG,cg]
 refine aF.aa (q:=λ_=>True) ?_ λb _=>aF.ab (λ_=>⟨_,rfl,trivial⟩) λ_=>?_
 ·refine aF.ab (λ_=>⟨_,rfl,trivial⟩) λF=>?_
  have F:dO lays m.gD=true:=by simpa using F
  refine aF.aa (q:=λ_=>True) ?_ λb _=>lS ?_
  ·refine aF.ab (λ_=>lL (JY (Dp _))) λj=>aF.ab (λ_=>lL (ND _)) λk=>aF.ab (λ_=>lL (NF _)) λB=>aF.aW ?_ λ_=>lL ⟨_,rfl,trivial⟩
   have j:=wH j
   have k:=wH k
   have B:=wH B
   refine decide_eq_true ?_
   rcases NH F with h|h|h|h<;>rw[h]at j k B⊢<;>first|rfl|exact absurd rfl j|exact absurd rfl k|exact absurd rfl B
  simp only[C4,qA,cg]
  exact lS (lS (lS ⟨_,rfl,trivial⟩))
 refine aF.aa (q:=λ_=>True) (aF.ab (λ_=>⟨_,rfl,trivial⟩) λ_=>⟨_,rfl,trivial⟩) λx _=>lL ?_
 rw[qA,cg]
 refine oC (aF.ab (λh=>aF.aW (decide_eq_true ?_) λ_=>aF.aa (LB ?_) λ_ _=>⟨_,rfl,trivial⟩) λ_=>⟨_,rfl,trivial⟩)
 ·have:=qn h;omega
 have:=qn h;omega
theorem Mo(e:Event):En (uk e):=by
 unfold uk
 refine aF.aa (q:=λ_=>True) ?_ λb _=>lL ?_
 ·refine aF.ab (λ_=>oC (lL (N2 _))) λ_=>aF.ab (λ_=>oC ?_) λ_=>aF.ab (λ_=>oC ?_) λ_=>⟨_,rfl,trivial⟩
  ·rw[wD];exact⟨_,rfl,trivial⟩
  rw[wQ];exact⟨_,rfl,trivial⟩
 rw[wQ,cg,wD]
 exact oC (oC ⟨_,rfl,trivial⟩)
theorem Bv(a b:Int):∃z,qN (a,b)=some z:=by
 unfold qN ui
 simp only[cg]
 have:∀x:Int,(!(aj x x))=false:=λx=>by simp[aj]
 rw[gW (this a),gW (this b)]
 cases ai a b<;>cases ai b a<;>exact⟨_,rfl⟩
theorem OH(x y:Int):∃z,uh (x::(y::([]:List Int)))=some z:=by
 unfold uh
 refine aF.ends (p:=λ_=>True) (aF.jn (q:=λ_=>True) (aF.up 2 id (λ_=>True) trivial ⟨by simp,by simp⟩ λz _ j=>?_) (λ_ _=>⟨_,rfl,trivial⟩) λ_ _=>trivial)
 refine aF.ab (λh=>aF.at_ ⟨j.1,ju h⟩ λx _ B=>aF.ab (λ_=>⟨_,rfl,trivial⟩) λ_=>?_) λ_=>⟨_,rfl,trivial⟩
 have:=ju h
 have k:=j.1
 simp only[id,List.length_cons,List.length_nil]at this k j
 refine aF.aW (gX (by omega)) λ_=>⟨_,rfl,trivial,by simp only[id];omega,by simp only[id];omega⟩
theorem OI(a b:Event):En (um (a,b)):=by
 unfold um
 obtain⟨x,j⟩:=Bv a.clock b.clock
 obtain⟨y,k⟩:=Bv a.dn b.dn
 obtain⟨z,B⟩:=OH x y
 simp only[j,k,cg,B]
 exact⟨_,rfl,trivial⟩
theorem L2{l:List Event}(G:l.length≤30):En (uj l):=by
 unfold uj
 refine aF.jn (q:=λ_=>True) (aF.up l.length id (λ_=>True) trivial ⟨by simp,by simp⟩ λz _ j=>?_) (λ_ _=>⟨_,rfl,trivial⟩) λ_ _=>trivial
 refine aF.ab (λh=>aF.at_ ⟨j.1,ju h⟩ λx _ M=>aF.aa (q:=λ_=>True) ?_ λb _=>aF.ab (λ_=>⟨_,rfl,trivial⟩) λ_=>?_) λ_=>⟨_,rfl,trivial⟩
 ·have F:=ju h
  have k:=j.1
  simp only[id]at k j
  refine aF.aa (Mo x) λb _=>lS (aF.ab (λB=>?_) λ_=>⟨_,rfl,trivial⟩)
  have B:=ju B
  exact aF.aW (gX (by omega)) λ_=>aF.at_ ⟨by omega,by omega⟩ λy _ _=>aF.aa (OI y x) λ_ _=>⟨_,rfl,trivial⟩
 have:=ju h
 have k:=j.1
 simp only[id]at k j
 refine aF.aW (gX (by omega)) λ_=>⟨_,rfl,trivial,by simp only[id];omega,by simp only[id];omega⟩
theorem Nz{l:List Event}(k:l.length≤30)(i:Int):En (qO (l,i)):=by
 unfold qO
 refine aF.aa (q:=λ_=>True) (aF.aa (L2 k) λb _=>lS ?_) λb _=>aF.ab (λ_=>⟨_,rfl,trivial⟩) λ_=>aF.aa (q:=λ_=>True) ?_ λ_ _=>⟨_,rfl,trivial⟩
 ·rw[wD];exact⟨_,rfl,trivial⟩
 refine aF.up l.length (λz:Int×Int=>z.2) (λ_=>True) trivial ⟨by simp,by simp⟩ λz _ j=>?_
 refine aF.ab (λh=>aF.aa (q:=λ_=>True) (aF.at_ ⟨j.1,ju h⟩ λx _ F=>?_) λv _=>?_) λ_=>⟨_,rfl,trivial⟩
 ·refine aF.aa (q:=λ_=>True) (aF.ab (λ_=>⟨_,rfl,trivial⟩) λ_=>⟨_,rfl,trivial⟩) λb _=>aF.ab (λ_=>⟨_,rfl,trivial⟩) λ_=>⟨_,rfl,trivial⟩
 have:=ju h
 have B:=j.1
 refine aF.aW (gX (by omega)) λ_=>⟨_,rfl,trivial,by simp only;omega,by simp only;omega⟩
theorem Tl{s:aJ}(k:s.events.length≤30):En (kv s):=by
 unfold kv
 simp only[As,cg]
 obtain⟨r,j⟩:=CH s.reader
 rw[j]
 refine aF.aa (q:=λ_=>True) (lS (lS ⟨_,rfl,trivial⟩)) λb _=>aF.ab (λ_=>⟨_,rfl,trivial⟩) λ_=>aF.aa (Nz k _) λv _=>lL ?_
 exact aF.ab (λ_=>⟨_,rfl,trivial⟩) λ_=>⟨_,rfl,trivial⟩
theorem Tn{s:aJ}{n:Int}(h:kv s=some true)(U:s.known≤n)(Y:n≤1000):kv ⟨s.id,s.reader,s.dR,n,s.events⟩=some true:=by
 unfold kv at h⊢
 simp only[As,cg]at h⊢
 obtain⟨r,O⟩:=CH s.reader
 simp only[O,cg]at h⊢
 by_cases B:1≤s.dR∧s.dR≤1000000
 ·simp only[B,decide_true]at h⊢
  cases r with
  |false=>simp[ab,aa]at h
  |true=>
   by_cases F:0≤s.known∧s.known≤1000
   ·have M:0≤n∧n≤1000:=by omega
    simp only[F,M,decide_true,ab,aa,Bool.not_true,cond_false]at h⊢
    cases k:qO (s.events,s.id)with
    |none=>rw[k]at h;cases h
    |some v=>
     rw[k]at h
     simp only at h⊢
     have G:(!decide (True∧True))=false:=by simp
     rw[G]at h⊢
     simp only at h⊢
     cases j:aj v.snd 0 with
     |false=>simp[j]at h
     |true=>
      simp only[j]at h
      simp only[Option.some.injEq]at h⊢
      have:=qn h
      exact decide_eq_true (by omega)
   simp[F,ab,aa]at h
 simp[B,ab,aa]at h
end Go.Proofs.YtioaemdeeebgcaaGreatDoor
namespace Go.Proofs.YtioaemdeeebgcaaGreatDoor
open Go Go.af Go.Sy
attribute [local instance] jG jB
noncomputable def vO(x:aJ):Bool:=(kv x).getD false
theorem Jo{x:aJ}(h:x.events.length≤30):kv x=some (vO x):=by
 obtain⟨b,j,_⟩:=Tl h
 unfold vO
 rw[j];rfl
noncomputable def oa(n:Int)(x:aJ):Bool:=ai n x.known || !(vO x)
noncomputable def jK(s:List aJ)(n:Int):Bool:=decide (s.map (·.id)).Nodup && !(s.any (oa n))
theorem T8{s:List aJ}{n:Int}(ae:s.length≤8)(Y:∀x∈s,x.events.length≤30):uw (s,n)=some (jK s n):=by
 have O:cd (λj:(Int×(List (Int×Bool)))=>ab (ai j.1 (s.length:Int)) (aa (aA s j.1) λM=>ag (an (j.1+1)) <|some (.inl ((j.1+1),(bc j.2 M.id true)))) (some (.inr j.2))) ((0:Int),([]:List (Int×Bool)))=some (s.foldl (λm x=>bc m x.id true) []):=by
  have:=nw (σ:=List (Int×Bool)) (st:=λz k=>((k:Int),z)) (step:=λj:(Int×(List (Int×Bool)))=>ab (ai j.1 (s.length:Int)) (aa (aA s j.1) λM=>ag (an (j.1+1)) <|some (.inl ((j.1+1),(bc j.2 M.id true)))) (some (.inr j.2))) (l:=s) (λz x=>.inl (bc z x.id true)) (λz=>z) (λ_ _=>True) (λk x z B _=>by
   have Z:=ki B
   dsimp only
   rw[lY (decide_eq_true (by omega)),lK B,cg,iO (by omega)];rfl) (λ_ _ _ _ _ _ _=>trivial) (λz _=>by
   dsimp only
   rw[gW (decide_eq_false (by omega))]) ([]:List (Int×Bool)) trivial
  rw[this,oH (λm x=>bc m x.id true) s [] (λ_ _ _=>rfl)]
 have U:uz (s,n)=some (s.any (oa n)):=by
  unfold uz yo
  dsimp only
  exact JP (l:=s) (oa n) (λk x B=>by
   have Z:=ki B
   have ad:=Jo (Y x (List.mem_of_getElem? B))
   rw[lY (decide_eq_true (by omega)),lK B,cg]
   have:ux (x,n)=some (oa n x):=by
    unfold ux oa
    dsimp only
    rw[ad,cg]
    cases ai n x.known<;>rfl
   rw[this,cg]
   cases oa n x with
   |true=>rfl
   |false=>
    rw[nb,iO (by omega)];rfl) (by
   rw[gW (decide_eq_false (by omega))])
 unfold uw
 dsimp only
 rw[O,cg,U]
 have G:=(Ch (λx:aJ=>x.id) (λ_=>true) s []).2
 simp only[List.length_nil,Nat.zero_add,Dk,implies_true,and_true]at G
 unfold jK
 by_cases F:(s.map (·.id)).Nodup
 ·have e:=G.2 F
  rw[show aj ((List.foldl (λm(x:aJ)=>bc m x.id true) [] s).length:Int) (s.length:Int)=true from decide_eq_true (congrArg Int.ofNat e)]
  rw[decide_eq_true F];rfl
 have e:¬_:=λh=>F (G.1 h)
 rw[show aj ((List.foldl (λm(x:aJ)=>bc m x.id true) [] s).length:Int) (s.length:Int)=false from decide_eq_false (λh=>e (Int.ofNat.inj h))]
 rw[decide_eq_false F];rfl
def sn(d:List Decision)(k:Nat):Bool:=match d[k]? with
 |some x=>!(aj x.number ((k:Int)+1))
 |none=>false
def pS(d:List Decision):Bool:=(List.range d.length).any (sn d)
def eo(n:Int)(s:List aJ):List Int:=(s.filter λx=>ai x.known n).map (·.id)
def mw(l:List Int):List Int:=l.mergeSort λx y=>decide (x≤y)
open Classical in
noncomputable def pK(d:List Decision)(s:List aJ):List Int×Int:=if pS d=true∨1000<d.length∨jK s (d.length:Int)=false then([],1)else(mw (eo (d.length:Int) s),0)
theorem Jq(n:Int)(s:List aJ):(eo n s).length≤s.length:=by
 unfold eo
 rw[List.length_map]
 exact List.length_filter_le _ _
theorem Jr{d:List Decision}{s:List aJ}(al:d.length≤30)(ae:s.length≤8)(ad:∀x∈s,x.events.length≤30):qS (d,s)=some (pK d s):=by
 unfold qS pK
 dsimp only
 rw[gW (decide_eq_false (by omega)),NP d.length (sn d) (([]:List Int),(1:Int)) (λk M=>by
  rw[lY (decide_eq_true (by omega)),lK (List.getElem?_eq_getElem M),cg,iO (by omega)]
  have:sn d k = !(aj d[k].number ((k:Int)+1)):=by unfold sn;rw[List.getElem?_eq_getElem M]
  rw[this]
  cases !(aj d[k].number ((k:Int)+1))with
  |true=>rfl
  |false=>
   rw[nb,iO (by omega)];rfl) (by
  rw[gW (decide_eq_false (by omega))])]
 show aT (some (if pS d=true then _ else _)) _=_
 by_cases F:pS d=true
 ·rw[if_pos F,if_pos (.inl F)];rfl
 rw[if_neg F,Nj,gW (decide_eq_false (by omega)),T8 ae ad,cg]
 cases ao:jK s (d.length:Int)with
 |false=>rw[if_pos (.inr (.inr rfl))];rfl
 |true=>
  rw[if_neg (by rintro(h|h|h)<;>first|exact F h|omega|cases h)]
  show aa _ _=_
  have Y:cd (λj:(Int×(List Int))=>ab (ai j.1 (s.length:Int)) (aa (aA s j.1) λB=>aa (ab (ai B.known (d.length:Int)) (ag (decide ((List.append j.2 (B.id::([]:List Int))).length*8≤140737488355328∧(List.append j.2 (B.id::([]:List Int))).length≤9223372036854775807)) <|some (List.append j.2 (B.id::([]:List Int)))) (some j.2)) λ(O:(List Int))=>ag (an (j.1+1)) <|some (.inl ((j.1+1),O))) (some (.inr j.2))) ((0:Int),([]:List Int))=some (eo (d.length:Int) s):=by
   have:=nw (σ:=List Int) (st:=λz k=>((k:Int),z)) (step:=λj:(Int×(List Int))=>ab (ai j.1 (s.length:Int)) (aa (aA s j.1) λB=>aa (ab (ai B.known (d.length:Int)) (ag (decide ((List.append j.2 (B.id::([]:List Int))).length*8≤140737488355328∧(List.append j.2 (B.id::([]:List Int))).length≤9223372036854775807)) <|some (List.append j.2 (B.id::([]:List Int)))) (some j.2)) λ(O:(List Int))=>ag (an (j.1+1)) <|some (.inl ((j.1+1),O))) (some (.inr j.2))) (l:=s) (λz x=>.inl (if ai x.known (d.length:Int)=true then z++[x.id]else z)) (λz=>z) (λk z=>z.length≤k) (λk x z U af=>by
    have M:=ki U
    dsimp only
    rw[lY (decide_eq_true (by omega)),lK U,cg]
    cases G:ai x.known (d.length:Int)with
    |true=>
     rw[oP,tu (decide_eq_true (by
      show(z++[x.id]).length*8≤_∧(z++[x.id]).length≤_
      rw[List.length_append,List.length_singleton];omega)),cg,iO (by omega)];rfl
    |false=>rw[nb,cg,iO (by omega)];rfl) (λk x z aq _ af h=>by
    injection h with h
    subst h
    split
    ·rw[List.length_append,List.length_singleton];omega
    ·omega) (λz _=>by
    dsimp only
    rw[gW (decide_eq_false (by omega))]) ([]:List Int) (Nat.le_refl _)
   rw[this,oH (λz x=>if ai x.known (d.length:Int)=true then z++[x.id]else z) s [] (λ_ _ _=>rfl)]
   congr 1
   have ak:∀(l:List aJ)(z:List Int),l.foldl (λz x=>if ai x.known (d.length:Int)=true then z++[x.id]else z) z=z++eo (d.length:Int) l:=by
    intro l
    induction l with
    |nil=>intro z;simp[eo]
    |cons x l ah=>
     intro z
     rw[List.foldl_cons,ah]
     unfold eo
     by_cases G:ai x.known (d.length:Int)=true
     ·simp[G]
     simp[G]
   simpa using ak s []
  rw[Y]
  have Z:DJ (eo (d.length:Int) s)=some (mw (eo (d.length:Int) s)):=by
   show kE _=_
   unfold kE
   have:=Jq (d.length:Int) s
   rw[if_pos (by omega)];rfl
  rw[show(!true)=false from rfl,cg,nb,cg,Z];rfl
end Go.Proofs.YtioaemdeeebgcaaGreatDoor
namespace Go.Proofs.YtioaemdeeebgcaaGreatDoor
open Go Go.af Go.Sy
attribute [local instance] jG jB
theorem L9(s:List aJ):aF (uv s) λb=>b=true→s.length≤8∧∀x∈s,x.events.length≤30:=by
 unfold uv
 refine aF.jn (q:=λr=>match r with |.inl _=>∀(k:Nat) x,s[k]?=some x→k<9→x.events.length≤30 |.inr b=>b=false) (aF.up 9 id (λz=>∀(k:Nat) x,s[k]?=some x→(k:Int)<z→x.events.length≤30) (λk x _ h=>by omega) ⟨by simp,by simp⟩ λz hi O=>?_) (λ_ h=>⟨_,rfl,λj=>?_⟩) λy h=>?_
 ·simp only[id]at O
  refine aF.aa (q:=λb=>b=decide (z<(s.length:Int)∧z<9)) ?_ λb j=>?_
  ·refine aF.ab (λh=>⟨_,rfl,?_⟩) λh=>⟨_,rfl,?_⟩
   ·have:=ju h
    show decide (z<9)=_
    by_cases U:z<9<;>simp[this,U]
   have:=C2 h
   simp[this]
  subst j
  refine aF.ab (λh=>?_) λh=>⟨_,rfl,?_⟩
  ·have h:=of_decide_eq_true h
   refine aF.at_ ⟨O.1,h.1⟩ λx B _=>?_
   refine aF.aa (q:=λb=>b=aB (x.events.length:Int) 30) ⟨_,rfl,rfl⟩ λb j=>?_
   subst j
   refine aF.ab (λ_=>⟨_,rfl,rfl⟩) λG=>aF.aW (gX (by omega)) λ_=>⟨_,rfl,λk y F M=>?_,by simp only[id];omega,by simp only[id];omega⟩
   have G:aB (x.events.length:Int) 30=true:=by simpa using G
   have G:=qn G
   by_cases Y:(k:Int)<z
   ·exact hi k y F Y
   have:k=z.toNat:=by omega
   subst this
   rw[B]at F;injection F with F;subst F;omega
  have h:=of_decide_eq_false h
  intro k x B M
  have:=ki B
  exact hi k x B (by omega)
 ·have:=qn j
  refine⟨by omega,λx B=>?_⟩
  obtain⟨k,M⟩:=List.getElem?_of_mem B
  exact h k x M (by have:=ki M;omega)
 have h:y=false:=h
 intro j;rw[h]at j;cases j
def more(n:Int)(x:aJ):aJ:=⟨x.id,x.reader,x.dR,n,x.events⟩
theorem all_eq{s:List aJ}{n:Int}(ae:s.length≤8):cd (λB:(Int×(Int×(List aJ)))=>ab (ai B.2.1 (s.length:Int)) (aa (aA s B.2.1) λj=>aa (ab (ai j.known n) (ag (an (B.1+1)) <|some (B.1+1)) (some B.1)) λ(G:Int)=>ag (decide ((List.append B.2.2 ((⟨j.id,j.reader,j.dR,n,j.events⟩:aJ)::([]:List aJ))).length*72≤140737488355328∧(List.append B.2.2 ((⟨j.id,j.reader,j.dR,n,j.events⟩:aJ)::([]:List aJ))).length≤9223372036854775807)) <|ag (an (B.2.1+1)) <|some (.inl (G,((B.2.1+1),(List.append B.2.2 ((⟨j.id,j.reader,j.dR,n,j.events⟩:aJ)::([]:List aJ))))))) (some (.inr (B.1,B.2.2)))) (0,(0,([]:List aJ)))=some (((eo n s).length:Int),s.map (more n)):=by
 have:=nw (σ:=Int×List aJ) (st:=λz k=>(z.1,((k:Int),z.2))) (step:=λB:(Int×(Int×(List aJ)))=>ab (ai B.2.1 (s.length:Int)) (aa (aA s B.2.1) λj=>aa (ab (ai j.known n) (ag (an (B.1+1)) <|some (B.1+1)) (some B.1)) λ(G:Int)=>ag (decide ((List.append B.2.2 ((⟨j.id,j.reader,j.dR,n,j.events⟩:aJ)::([]:List aJ))).length*72≤140737488355328∧(List.append B.2.2 ((⟨j.id,j.reader,j.dR,n,j.events⟩:aJ)::([]:List aJ))).length≤9223372036854775807)) <|ag (an (B.2.1+1)) <|some (.inl (G,((B.2.1+1),(List.append B.2.2 ((⟨j.id,j.reader,j.dR,n,j.events⟩:aJ)::([]:List aJ))))))) (some (.inr (B.1,B.2.2)))) (l:=s) (λz x=>.inl (if ai x.known n=true then z.1+1 else z.1,z.2++[more n x])) (λz=>z) (λk z=>z.2.length≤k∧0≤z.1∧z.1≤k) (λk x z O U=>by
  have ad:=ki O
  dsimp only
  rw[lY (decide_eq_true (by omega)),lK O,cg]
  have M:(List.append z.2 ((⟨x.id,x.reader,x.dR,n,x.events⟩:aJ)::([]:List aJ))).length=z.2.length+1:=by
   show(z.2++[_]).length=_
   rw[List.length_append,List.length_singleton]
  cases F:ai x.known n with
  |true=>
   rw[oP,iO (by omega),cg,tu (decide_eq_true (by rw[M];omega)),iO (by omega)];rfl
  |false=>rw[nb,cg,tu (decide_eq_true (by rw[M];omega)),iO (by omega)];rfl) (λk x z af _ U h=>by
  injection h with h
  subst h
  refine⟨by show(z.2++[_]).length≤_;rw[List.length_append,List.length_singleton];omega,?_⟩
  dsimp only
  split<;>omega) (λz _=>by
  dsimp only
  rw[gW (decide_eq_false (by omega))]) ((0:Int),([]:List aJ)) ⟨Nat.le_refl _,Int.le_refl _,Int.le_refl _⟩
 refine this.trans ?_
 rw[oH (λz x=>(if ai x.known n=true then z.1+1 else z.1,z.2++[more n x])) s _ (λ_ _ _=>rfl)]
 congr 1
 have Z:∀(l:List aJ)(z:Int×List aJ),l.foldl (λz x=>(if ai x.known n=true then z.1+1 else z.1,z.2++[more n x])) z=(z.1+((eo n l).length:Int),z.2++l.map (more n)):=by
  intro l
  induction l with
  |nil=>intro z;simp[eo]
  |cons x l Y=>
   intro z
   rw[List.foldl_cons,Y]
   unfold eo
   by_cases F:ai x.known n=true
   ·simp[F];omega
   simp[F]
 simpa using Z s (0,[])
theorem Uw{s:List aJ}{n i:Int}(Z:s.length≤8)(hi:i∈eo n s):cd (λj:(Bool×Int)=>ab (ai j.2 (s.length:Int)) (aa (aa (aA s j.2) λB=>ab j.1 (some true) (ab (aj B.id i) (some (ai B.known n)) (some false))) λ(B:Bool)=>ag (an (j.2+1)) <|some (.inl (B,(j.2+1)))) (some (.inr j.1))) (false,0)=some true:=by
 have:=nw (σ:=Bool) (st:=λz k=>(z,(k:Int))) (step:=λj:(Bool×Int)=>ab (ai j.2 (s.length:Int)) (aa (aa (aA s j.2) λB=>ab j.1 (some true) (ab (aj B.id i) (some (ai B.known n)) (some false))) λ(B:Bool)=>ag (an (j.2+1)) <|some (.inl (B,(j.2+1)))) (some (.inr j.1))) (l:=s) (λz x=>.inl (z||(aj x.id i&&ai x.known n))) (λz=>z) (λ_ _=>True) (λk x z F _=>by
  have Y:=ki F
  dsimp only
  rw[lY (decide_eq_true (by omega)),lK F,cg]
  have:ab z (some true) (ab (aj x.id i) (some (ai x.known n)) (some false))=some (z||(aj x.id i&&ai x.known n)):=by
   cases z<;>cases aj x.id i<;>rfl
  rw[this,cg,iO (by omega)];rfl) (λ_ _ _ _ _ _ _=>trivial) (λz _=>by
  dsimp only
  rw[gW (decide_eq_false (by omega))]) false trivial
 refine this.trans ?_
 rw[oH (λz x=>z||(aj x.id i&&ai x.known n)) s _ (λ_ _ _=>rfl)]
 congr 1
 have U:∀(l:List aJ)(z:Bool),l.foldl (λz x=>z||(aj x.id i&&ai x.known n)) z=(z||l.any λx=>aj x.id i&&ai x.known n):=by
  intro l
  induction l with
  |nil=>intro z;simp
  |cons x l O=>intro z;rw[List.foldl_cons,O,List.any_cons,Bool.or_assoc]
 rw[U,Bool.false_or,List.any_eq_true]
 unfold eo at hi
 obtain⟨x,F,rfl⟩:=List.mem_map.1 hi
 obtain⟨G,M⟩:=List.mem_filter.1 F
 exact⟨x,G,by rw[M];simp[aj]⟩
theorem Tj{l:List Int}(h:l.Nodup):(mw l).Pairwise (· < ·):=by
 have j:(mw l).Pairwise λa b=>decide (a≤b)=true:=List.pairwise_mergeSort (λa b c j k=>by
  have j:=of_decide_eq_true j;have k:=of_decide_eq_true k
  exact decide_eq_true (by omega)) (λa b=>by
  simp only[Bool.or_eq_true,decide_eq_true_eq];omega) l
 have k:(mw l).Nodup:=(List.mergeSort_perm l _).nodup_iff.2 h
 exact(List.Pairwise.and j k).imp λ⟨a,b⟩=>by
  have:=of_decide_eq_true a
  omega
theorem UF{s:List aJ}{n:Int}(h:(s.map (·.id)).Nodup):(eo n s).Nodup:=by
 unfold eo
 exact h.sublist (List.Sublist.map _ (List.filter_sublist ..))
theorem Oh{d:List Decision}{s:List aJ}(U:∀x∈s,x.events.length≤30)(M:¬pS d=true)(Z:d.length≤1000)(k:jK s (d.length:Int)=true):pK d (s.map (more (d.length:Int)))=([],0):=by
 have O:jK (s.map (more (d.length:Int))) (d.length:Int)=true:=by
  unfold jK at k⊢
  rw[Bool.and_eq_true]at k⊢
  obtain⟨a,b⟩:=k
  refine⟨?_,?_⟩
  ·rw[List.map_map];exact a
  rw[Bool.not_eq_true']at b⊢
  rw[List.any_eq_false]at b⊢
  intro y B
  obtain⟨x,G,rfl⟩:=List.mem_map.1 B
  have j:=b x G
  unfold oa at j⊢
  simp only[Bool.or_eq_true,Bool.not_eq_true',not_or,Bool.not_eq_false]at j⊢
  have F:=Jo (U x G)
  rw[j.2]at F
  have:=C2 (by simpa using j.1)
  have Y:=Tn F (n:=(d.length:Int)) (by omega) (by omega)
  refine⟨by simp[more,ai],?_⟩
  unfold vO
  rw[show kv (more (d.length:Int) x)=some true from Y];rfl
 unfold pK
 rw[if_neg (by rintro(h|h|h)<;>first|exact M h|omega| (rw[O]at h;cases h))]
 have:eo (d.length:Int) (s.map (more (d.length:Int)))=[]:=by
  unfold eo
  rw[List.map_eq_nil_iff,List.filter_eq_nil_iff]
  intro y B
  obtain⟨x,_,rfl⟩:=List.mem_map.1 B
  simp[more,ai]
 rw[this]
 unfold mw
 rw[List.mergeSort_nil]
theorem Ln{s:List aJ}{n:Int}{l:List Int}(Z:l.length≤8)(ae:s.length≤8)(O:∀i∈l,i∈eo n s)(U:l.Pairwise (· < ·)):cd (λj:(Bool×Int)=>ab (ai j.2 (l.length:Int)) (aa (aa (aA l j.2) λG=>aa (cd (λB:(Bool×Int)=>ab (ai B.2 (s.length:Int)) (aa (aa (aA s B.2) λF=>ab B.1 (some true) (ab (aj F.id G) (some (ai F.known n)) (some false))) λ(F:Bool)=>ag (an (B.2+1)) <|some (.inl (F,(B.2+1)))) (some (.inr B.1))) (false,0)) λ(B:Bool)=>ab j.1 (ab B (ab (aj j.2 0) (some true) (ag (an (j.2-1)) <|aa (aA l (j.2-1)) λF=>some (ai F G))) (some false)) (some false)) λ(G:Bool)=>ag (an (j.2+1)) <|some (.inl (G,(j.2+1)))) (some (.inr j.1))) (true,0)=some true:=by
 have:=nw (σ:=Bool) (st:=λz k=>(z,(k:Int))) (step:=λj:(Bool×Int)=>ab (ai j.2 (l.length:Int)) (aa (aa (aA l j.2) λG=>aa (cd (λB:(Bool×Int)=>ab (ai B.2 (s.length:Int)) (aa (aa (aA s B.2) λF=>ab B.1 (some true) (ab (aj F.id G) (some (ai F.known n)) (some false))) λ(F:Bool)=>ag (an (B.2+1)) <|some (.inl (F,(B.2+1)))) (some (.inr B.1))) (false,0)) λ(B:Bool)=>ab j.1 (ab B (ab (aj j.2 0) (some true) (ag (an (j.2-1)) <|aa (aA l (j.2-1)) λF=>some (ai F G))) (some false)) (some false)) λ(G:Bool)=>ag (an (j.2+1)) <|some (.inl (G,(j.2+1)))) (some (.inr j.1))) (l:=l) (λz x=>.inl true) (λz=>z) (λ_ z=>z=true) (λk x z M af=>by
  subst af
  have ak:=ki M
  dsimp only
  rw[lY (decide_eq_true (by omega)),lK M,cg,Uw ae (O x (List.mem_of_getElem? M)),cg,oP,oP]
  cases k with
  |zero=>rfl
  |succ k=>
   have Y:l[k]?=some l[k]:=List.getElem?_eq_getElem (by omega)
   have ad:l[k]<x:=OR U k _ _ Y M
   rw[gW (show aj ((k+1:Nat):Int) 0=false from decide_eq_false (by omega)),iO (by omega),show((k+1:Nat):Int)-1=(k:Int) by omega,lK Y,cg,cg,iO (by omega),show ai l[k] x=true from decide_eq_true ad];rfl) (λ_ _ _ _ _ _ h=>by injection h with h;exact h.symm) (λz _=>by
  dsimp only
  rw[gW (decide_eq_false (by omega))]) true rfl
 refine this.trans ?_
 rw[oH (λ_ _=>true) l _ (λ_ _ _=>rfl)]
 congr 1
 clear this Z O U
 induction l with
 |nil=>rfl
 |cons x l ah=>exact ah
theorem NB{d:List Decision}{s:List aJ}(Y:yk ()=some true):qQ (d,s)=some true:=by
 unfold qQ
 dsimp only
 rw[Y,cg]
 by_cases ag:30<d.length
 ·rw[lY (show ai 30 (d.length:Int)=true from decide_eq_true (by omega)),cg,oP]
 rw[gW (show ai 30 (d.length:Int)=false from decide_eq_false (by omega))]
 obtain⟨b,O,U⟩:=L9 s
 rw[O,cg]
 cases b with
 |false=>rfl
 |true=>
  obtain⟨B,F⟩:=U rfl
  rw[show(!true)=false from rfl,cg,nb,Jr (by omega) B F,cg]
  by_cases k:pS d=true∨1000<d.length∨jK s (d.length:Int)=false
  ·have:pK d s=([],1):=if_pos k
   rw[this];rfl
  have M:pK d s=(mw (eo (d.length:Int) s),0):=if_neg k
  rw[M]
  dsimp only
  rw[show(!aj (0:Int) 0)=false from rfl,nb,all_eq B,cg]
  have j:jK s (d.length:Int)=true:=by
   cases h:jK s (d.length:Int)with
   |true=>rfl
   |false=>exact absurd (.inr (.inr h)) k
  have ad:(s.map (·.id)).Nodup:=by
   unfold jK at j
   rw[Bool.and_eq_true]at j
   exact of_decide_eq_true j.1
  have G:(mw (eo (d.length:Int) s)).Perm (eo (d.length:Int) s):=List.mergeSort_perm _ _
  have Z:=G.length_eq
  have ah:=Jq (d.length:Int) s
  rw[Ln (by omega) B (λi hi=>G.subset hi) (Tj (UF ad)),cg]
  dsimp only
  rw[Jr (by omega) (by rw[List.length_map];exact B) (λy af=>by
   obtain⟨x,ae,rfl⟩:=List.mem_map.1 af
   exact F x ae),cg,Oh F (λh=>k (.inl h)) (by omega) j]
  rw[oP,Z]
  simp[aj,ab,aa]
theorem NC(j:Ty.den (.list (.st 24)))(B:fW 9 (.list (.st 24)) j≤1048576)(G:jA 9 (.list (.st 24)) j)(k:Ty.den (.list (.st 3)))(F:fW 9 (.list (.st 3)) k≤1048576)(M:jA 9 (.list (.st 3)) k):qQ (j,k)=some true:=NB head_eq
end Go.Proofs.YtioaemdeeebgcaaGreatDoor
