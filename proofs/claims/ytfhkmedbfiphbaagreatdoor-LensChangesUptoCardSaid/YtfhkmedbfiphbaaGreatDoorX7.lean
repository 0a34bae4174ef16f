import Derived.Test.YtfhkmedbfiphbaaGreatDoorX6
import Derived.Shelf.SlSortCmp.WholeK
import Derived.Shelf.SlSortCmp.NoneTotal
set_option linter.all false
namespace Go.Proofs.YtfhkmedbfiphbaaGreatDoor
open Go Go.aj cE
open Go.Maps Go.Sort Go.Shelf Go.RowKit
set_option maxRecDepth 10000
@[reducible] def oW:pn:=⟨False⟩
attribute [local instance] cD oW
def R0:Value→Option (DataW Unit×List MemPlace):=fun _=>some (.lit (.bool true),[])
theorem aem {w:World} {b cR:Nat} {es:Array MapEntry} {xs:List Int} (hh:gd w.heap[b]? (es,cR)) (aK:es.size=xs.length) (hk:∀ (i:Nat) (e:MapEntry) x,es[i]?=some e→xs[i]?=some x→e.key = .int .i64 x) (Az:∀ x∈xs,-9223372036854775808≤x∧x≤9223372036854775807) (jX:xs.length≤1000000000) :
  ∃ D0:DataW Unit,w.ownsMap Tryz.prog 3 R0 b xs.length D0∧(intKeys D0).Perm xs∧Maps.size D0=xs.length:=by
 have acd:∀ x∈xs,(Lit.int .i64 x).wf=true:=fun x hx=>WalkArith.wf_i64 (by have:=Az x hx;omega)
 have hkx:∀ e∈es.toList,∃ x∈xs,e.key = .int .i64 x:=by
  intro e he
  obtain⟨i,hi,rfl⟩:=List.mem_iff_getElem.1 he
  have dN:i < es.size:=by simpa using hi
  have hx:xs[i]?=some xs[i]:=List.getElem?_eq_getElem (by omega)
  exact⟨_,List.mem_of_getElem? hx,hk i _ _ (by simp[dN]) hx⟩
 have ch:∀ e∈es.toList,∀ x∈xs,e.key = .int .i64 x→WideElems.rd Tryz.prog 3 R0 e=some (.int .i64 x,.lit (.bool true)):=by
  intro e he x hx iU
  simp[WideElems.rd,iU,keyOf_int_mk Tryz.underlying3 (acd x hx),R0]
 refine⟨_,⟨es,cR,hh.1,⟨by rw[aK];unfold maxLen;omega,hh.2,fun e he=>?_⟩,by omega,rfl⟩,?_,?_⟩
 ·obtain⟨x,hx,iU⟩:=hkx e he
  exact⟨_,ch e he x hx iU⟩
 ·show(((es.toList.map (WideElems.rg Tryz.prog 3 R0)).foldr DataW.insert []).map fun p=>Go.intOf p.1).Perm xs
  refine((WideShapes.sorted_perm _).map _).trans ?_
  have:(es.toList.map (WideElems.rg Tryz.prog 3 R0)).map (fun p=>Go.intOf p.1)=xs:=by
   apply List.ext_getElem?
   intro i
   rw[List.getElem?_map,List.getElem?_map]
   by_cases hi:i < es.size
   ·have he:es.toList[i]?=some es[i]:=by simp[hi]
    have hx:xs[i]?=some xs[i]:=List.getElem?_eq_getElem (by omega)
    have iU:=hk i es[i] xs[i] (by simp[hi]) hx
    have:=ch es[i] (List.mem_of_getElem? he) _ (List.mem_of_getElem? hx) iU
    rw[he,hx]
    simp[WideElems.rg,this,Go.intOf]
   rw[List.getElem?_eq_none (by simp;omega),List.getElem?_eq_none (by omega)];rfl
  rw[this]
 show((es.toList.map (WideElems.rg Tryz.prog 3 R0)).foldr DataW.insert []).length=xs.length
 rw[(WideShapes.sorted_perm _).length_eq];simp[aK]
def dG (xs:List Int):List Int:=xs.mergeSort leI
theorem ah7 {xs ys:List Int} (h:xs.Perm ys):dG xs=dG ys:=mergeSort_of_perm_i h
theorem ahN {w:World} {I:aw} {B g:Nat} {cur:Array Value} {e:TypeId} {fl:Nat×Nat} (du:dH w I) (bS:I.eZ g) (hB:B≤g) (hh:w.heap[g]?=some (.cells cur e fl)) :
  dH w (I.ez g cur.toList)∧gE B I (I.ez g cur.toList):=by
 have im:∀ b,b≠g→(I.ez g cur.toList).cell b=I.cell b:=fun b hb=>by funext o;simp[aw.ez,hb]
 have hle:I.le (I.ez g cur.toList):=⟨fun b o v hc=>by
  have hb:b≠g:=by rintro rfl;rw[bS.1 o] at hc;cases hc
  rw[im b hb];exact hc,fun _ _ h=>h,fun _ h=>h⟩
 refine⟨⟨fun b o v hc=>?_,fun b es hc=>du.mp b es hc,du.df,fun g d hd=>(du.dA g d hd).mono hle⟩,.of hle (fun b hb=>im b (by omega)) (fun _ _=>rfl)⟩
 by_cases hb:b=g
 ·subst hb
  simp only[aw.ez,if_true] at hc
  cases hx:cur[o]? with
  | none=>simp[hx,bS.1 o] at hc
  | some x=>simp[hx] at hc;subst hc;simp[World.cell?,hh,hx]
 rw[im b hb] at hc;exact du.cell b o v hc
theorem aie (m:Nat):AnyZI.SortsIn Tryz.prog Tryz.Xb Fence.wide m:=
 ⟨fun iD off cap ss W hH hblk aK=>callsIn_wide.2 (AnyM.slices_Sort_int Tryz.sortInt iD off cap ss W hH hblk aK),
  fun p cap W=>callsIn_wide.2 (AnyM.slices_Sort_int_none Tryz.sortInt p cap W)⟩
theorem ZB (xs:List Int) (vs:List D) (Az:∀ x∈xs,-9223372036854775808≤x∧x≤9223372036854775807) (jX:xs.length≤1000000000) :
  gg Tryz.prog 45 [.aL 90 [.box (.map (xs.map enc) vs)]] (.slice 1 ((dG xs).map enc)):=by
 intro w I args du hlen ch
 obtain⟨v,rfl⟩:∃ v,args = #[v]:=by
  match args,hlen with
  | ⟨[a]⟩,_=>exact⟨a,rfl⟩
 have hv:=ch 0 v _ rfl rfl
 obtain⟨p,rfl,hp⟩:∃ p,v = .func (.func 90) #[] #[p]∧Rd I p (.box (.map (xs.map enc) vs)):=by
  generalize xs.map (enc:Int→D)=ks at hv ⊢
  cases hv with
  | aL f ps ds h1 h2=>
   match ps,h1 with
   | ⟨[p]⟩,_=>exact⟨p,rfl,h2 0 p _ rfl rfl⟩
 obtain⟨b,mb,rfl,gx,hm⟩:∃ b mb,p = .pointer (some ⟨b,0,none⟩)∧w.cell? ⟨b,0,none⟩=some (.map mb)∧Rd I (.map mb) (.map (xs.map enc) vs):=by
  generalize xs.map (enc:Int→D)=ks at hp ⊢
  cases hp with
  | box b d val h1 h2 h3=>
   have h4:=h2 0 (by simp[D.cells])
   have h5:=h3 0 _ rfl
   obtain⟨mb,hmb⟩:∃ mb,val 0 = .map mb:=by
    generalize val 0=z at h5
    cases h5<;>exact⟨_,rfl⟩
   rw[hmb] at h4 h5
   exact⟨b,mb,rfl,du.cell _ _ _ h4,h5⟩
 have hb:b < w.heap.size:=World.block_lt_of_cell? w ⟨b,0,none⟩ gx
 have main:∀ (S:List Int→Prop) (N:Nat),N≤1000000000→SeqGives Fence.wide 2 Tryz.prog 90 #[.pointer (some ⟨b,0,none⟩)] encZ S N w→(∀ ss,S ss→dG ss=dG xs) →
   Calls Tryz.prog 45 #[.func (.func 90) #[] #[.pointer (some ⟨b,0,none⟩)]] w fun e w'=>∃ v J,e = .returned v∧eB w.heap.size w w'∧gE w.heap.size I J∧dH w' J∧Rd J v (.slice 1 ((dG xs).map enc)):=by
  intro S N hN ab2 hS
  have cS:=AnyZI.sorted_in Tryz.aid Fence.wide 5 trivial trivial trivial trivial rfl (by omega) (aie _) (enters_of Tryz.func89 (by kernel_rfl) rfl) 90 #[.pointer (some ⟨b,0,none⟩)] trivial (enters_of Tryz.func90 (by kernel_rfl) rfl) S N (by unfold maxLen;omega) (by omega) w ab2
  change CallsIn _ _ Tryz.prog 45 _ _ _ at cS
  refine((callsIn_wide (n:=5)).1 cS).mono ?_
  rintro e w' ⟨v,ss,rfl,hSs,lL,_,zV⟩
  have xF:=hS ss hSs
  unfold dG at xF
  have hlen:(dG xs).length=xs.length:=by unfold dG;rw[(List.mergeSort_perm _ _).length_eq]
  change ss.mergeSort leI=dG xs at xF
  rw[xF] at lL
  generalize dG xs=ys at lL hlen
  obtain⟨n,lL⟩:∃ n,w'.ownsRow w.heap.size 3 1 v n (ys.map encZ):=⟨_,lL⟩
  have zM:eB w.heap.size w w':=eB.of zV fun h=>h.elim
  have SR:dH w' I:=⟨fun b o u hc=>(World.cell?_of_block (w:=w) (a:=⟨b,o,none⟩) (zM.block b (du.lt hc))).trans (du.cell b o u hc),fun b es hc=>by
   exact gd.to (zM.block b (du.qb hc)) (du.mp b es hc),fun b hd=>(zM.block b (du.mr hd)).trans (du.df b hd),du.dA⟩
  obtain⟨hn,⟨rfl,h0⟩ | ⟨g,cap,cur,rfl,hg,hh,fC,nH,aK,nS⟩⟩:=lL
  ·have:ys=[]:=by simpa [h0] using hn
   subst this
   exact⟨_,I,rfl,zM,gE.refl _ _,SR,.lh _ _ _ (Nat.zero_le _)⟩
  have bS:=du.eZ hg
  obtain⟨k1,k2⟩:=ahN (B:=w.heap.size) SR bS hg hh
  refine⟨_,_,rfl,zM,k2,k1,.slice _ _ _ _ _ _ (fun k=>(cur[k]?).getD undef) (by simpa using hn) fC nH (fun d hd=>?_) (fun k hk=>?_) (fun k x hx=>?_)⟩
  ·obtain⟨y,_,rfl⟩:=List.mem_map.1 hd
   simp[xk,D.cells,D.one]
  ·have:cur[k]?=some (cur[k]'(by omega)):=Array.getElem?_eq_getElem (by omega)
   simp[aw.ez,this]
  have cG:flat (ys.map (enc:Int→D))=ys.map enc:=by
   unfold flat
   rw[List.flatMap_map]
   simp[xk,D.cells]
   rw[←List.map_eq_flatMap]
   exact List.map_congr_left fun z _=>(xk z).symm
  rw[cG] at hx
  have hk:k < ys.length:=by have:=(List.getElem?_eq_some_iff.1 hx).1;simpa using this
  have hy:ys[k]?=some ys[k]:=List.getElem?_eq_getElem hk
  have cK:x=enc ys[k]:=by simpa [hy] using hx.symm
  have hc:cur[k]?=some (encZ ys[k]):=by
   have h1:(cur.toList.take (n*1))[k]?=(ys.map encZ)[k]?:=by rw[nS]
   rw[List.getElem?_take_of_lt (by simp at hn;omega)] at h1
   simpa [hy] using h1
  rw[hc,cK,xk]
  exact .int _ _
 cases mb with
 | none=>
  have hx:xs=[]:=by
   generalize xz:xs.map (enc:Int→D)=ks at hm
   cases hm
   simpa using xz
  subst hx
  exact main (fun ss=>ss=[]) 0 (by omega) (AnyZI.keys_gives_nil (ρ:=Tryz.Lm) { Tryz.Ub with } Fence.wide _ trivial rfl b w hb gx) (fun ss h=>by rw[h])
 | some bb=>
  obtain⟨⟨es,cR⟩,h1,h2,h3⟩:∃ es:ME,I.mp bb=some es∧es.1.size=(xs.map (enc:Int→D)).length∧∀ (i:Nat) (e:MapEntry) (d:D),es.1[i]?=some e→(xs.map (enc:Int→D))[i]?=some d→Rd I e.key d:=by
   generalize xz:xs.map (enc:Int→D)=ks at hm
   cases hm with
   | map _ es _ _ q1 q2 q3 q4 q5=>exact⟨es,q1,q2,q4⟩
  have hh:=du.mp bb (es,cR) h1
  obtain⟨D0,g1,g2,g3⟩:=aem (xs:=xs) hh (by simpa using h2) (fun i e x he hx=>by
   have:=h3 i e (enc x) he (by simp[hx])
   rw[xk] at this
   generalize e.key=z at this
   cases this;rfl) Az jX
  exact main (fun ss=>ss.Perm (intKeys D0)) (Maps.size D0) (by omega) (AnyZI.keys_gives (ρ:=Tryz.Lm) { Tryz.Ub with } Fence.wide _ trivial rfl (by omega) b bb xs.length D0 w hb gx g1) (fun ss h=>ah7 (h.trans g2))
open Go.Sy
noncomputable def wi (m:List (Int×ag)):Option (List Int):=
 ar (m.all (fun p=>az p.1)&&leI (m.length:Int) 1000000000) (some (dG (m.map (·.1))))
noncomputable def Da:Sy.Callee:=⟨45,[.aL 90 (.box (.map (.int .i64) (.st 5)))],[.list (.int .i64)],wi⟩
theorem aed:aB Tryz.prog Da:=
 ⟨Enters.of Tryz.func45 (by decide),fun a r h=>(by
  change List (Int×ag) at a
  change List Int at r
  have h:wi a=some r:=h
  unfold wi ar at h
  split at h
  ·rename_i hc
   injection h with h;subst h
   simp only[Bool.and_eq_true,List.all_eq_true,decide_eq_true_eq] at hc
   obtain⟨h1,h2⟩:=hc
   have:=ZB (a.map (·.1)) (a.map fun p=>((.st 5:Ty).fU p.2).1) (fun x hx=>by
    obtain⟨p,hp,rfl⟩:=List.mem_map.1 hx
    exact h1 p hp) (by rw[List.length_map];omega)
   have e1:(a.map (·.1)).map (enc:Int→D)=a.map fun p=>D.int .i64 p.1:=by rw[List.map_map];rfl
   rw[e1] at this
   exact this
  ·cases h),
  fun t h=>dF (List.all_eq_true.1 (rfl:Da.args.all fP=true) t h),fun t h=>dF (List.all_eq_true.1 (rfl:Da.res.all fP=true) t h)⟩
end Go.Proofs.YtfhkmedbfiphbaaGreatDoor
namespace Go.Proofs.YtfhkmedbfiphbaaGreatDoor
open Go Go.aj Go.Sy
@[reducible] def dh:pn:=⟨False⟩
attribute [local instance] cD dh
theorem MP:∀ (k:Nat) (a b:Int),b.natAbs≤k→0≤a→0≤b→jd a b=(Int.gcd a b:Int)
 | k,a,b,hk,ha,hb=>by
  by_cases h:b=0
  ·subst h;rw[GB];simp[Int.gcd];omega
  rw[MQ h,Int.tmod_eq_emod_of_nonneg ha]
  have h1:0≤a % b:=Int.emod_nonneg _ h
  have h2:a % b < b:=Int.emod_lt_of_pos _ (by omega)
  match k,hk with
  | 0,hk=>omega
  | k+1,hk=>
   rw[MP k b (a % b) (by omega) hb h1]
   congr 1
   unfold Int.gcd
   have e:(a % b).natAbs=a.natAbs % b.natAbs:=by
    obtain⟨x,rfl⟩:=Int.eq_ofNat_of_zero_le ha
    obtain⟨y,rfl⟩:=Int.eq_ofNat_of_zero_le hb
    rw[←Int.natCast_emod];rfl
   rw[e,Nat.gcd_comm,←Nat.gcd_rec,Nat.gcd_comm]
theorem VE {n:Int} (h : -1000000000000≤n∧n≤1000000000000):yn n=some (n.natAbs:Int):=by
 unfold yn j9
 rw[aJ (by omega)]
 congr 1
 omega
def my (q:Rat):Prop:=1≤q.d∧q.d≤1000000 ∧ -1000000000≤q.n∧q.n≤1000000000∧Int.gcd q.n q.d=1
instance (q:Rat):Decidable (my q):=inferInstanceAs (Decidable (_∧_∧_∧_∧_))
theorem af5 {n d:Int} (h1:1≤d) (h2:d≤1000000) (h3 : -1000000000≤n) (h4:n≤1000000000):vV ⟨n,d⟩=some ⟨n.tdiv (Int.gcd n d),d.tdiv (Int.gcd n d)⟩:=by
 unfold vV
 rw[VE (by dsimp only;omega),af,VE (by dsimp only;omega),af,ak (by simp;omega),MP _ _ _ (Nat.le_refl _) (by omega) (by omega)]
 have hg:((Int.gcd (n.natAbs:Int) (d.natAbs:Int):Nat):Int)=(Int.gcd n d:Int):=by simp[Int.gcd]
 dsimp only
 rw[hg]
 have bO:0 < Int.gcd n d:=Int.gcd_pos_of_ne_zero_right n (by omega)
 have b1:((n.tdiv (Int.gcd n d)).natAbs)≤n.natAbs:=by rw[Int.natAbs_tdiv];exact Nat.div_le_self _ _
 have b2:((d.tdiv (Int.gcd n d)).natAbs)≤d.natAbs:=by rw[Int.natAbs_tdiv];exact Nat.div_le_self _ _
 unfold Bf
 rw[Jw (by omega),Jw (by unfold kW;dsimp only;omega),Jw (by unfold kW;dsimp only;omega)]
theorem Yv (a b:Fraction):Ox a b=decide (a=b):=by
 obtain⟨a1,a2⟩:=a
 obtain⟨b1,b2⟩:=b
 rw[Bool.eq_iff_iff,decide_eq_true_eq,Fraction.mk.injEq]
 show dJ [.int .i64 a1,.int .i64 a2] [.int .i64 b1,.int .i64 b2]=true↔_
 simp[dJ,jN]
theorem GP (q:Rat):tH q=some (decide (my q)):=by
 obtain⟨n,d⟩:=q
 have no:¬ (1≤d∧d≤1000000 ∧ -1000000000≤n∧n≤1000000000)→decide (my ⟨n,d⟩)=false:=fun h=>decide_eq_false fun h'=>h ⟨h'.1,h'.2.1,h'.2.2.1,h'.2.2.2.1⟩
 unfold tH MD
 dsimp only
 by_cases h1:d < 1
 ·rw[ai (by simp[h1]),af,ai rfl,no (by omega)]
 by_cases h2:1000000 < d
 ·rw[ak (by simp[h1]),ai (by simp[h2]),af,ai rfl,no (by omega)]
 by_cases h3:n < -1000000000
 ·rw[ak (by simp[h1]),ak (by simp[h2]),ai (by simp[h3]),af,ai rfl,no (by omega)]
 rw[ak (by simp[h1]),ak (by simp[h2]),ak (by simp[h3]),af]
 by_cases h:1000000000 < n
 ·rw[ai (by simp[h]),no (by omega)]
 rw[ak (by simp[h]),af5 (by omega) (by omega) (by omega) (by omega),af,Yv]
 congr 1
 rw[Bool.eq_iff_iff,decide_eq_true_eq,decide_eq_true_eq,Fraction.mk.injEq]
 have bO:0 < Int.gcd n d:=Int.gcd_pos_of_ne_zero_right n (by omega)
 constructor
 ·rintro⟨_,h2⟩
  refine⟨by dsimp only;omega,by dsimp only;omega,by dsimp only;omega,by dsimp only;omega,?_⟩
  by_cases hg:Int.gcd n d=1
  ·exact hg
  exfalso
  have h3:(d.tdiv (Int.gcd n d)).natAbs=d.natAbs / Int.gcd n d:=by rw[Int.natAbs_tdiv];rfl
  rw[h2] at h3
  have:d.natAbs / Int.gcd n d < d.natAbs:=Nat.div_lt_self (by omega) (by omega)
  omega
 rintro⟨_,_,_,_,h5⟩
 dsimp only at h5
 rw[h5];simp
def bZ (p:aE):Prop:=(0≤p.step∧p.step≤6)∧(-4≤p.alter∧p.alter≤4)∧(-8≤p.au∧p.au≤20)
instance (p:aE):Decidable (bZ p):=inferInstanceAs (Decidable (_∧_∧_))
theorem FY (n lo hi:Int):we (n,lo,hi)=some (decide (lo≤n∧n≤hi)):=lT n lo hi
theorem MX (n lo hi:Int):rQ (n,lo,hi)=some (decide (lo≤n∧n≤hi)):=lT n lo hi
theorem agU (n lo hi:Int):yg (n,lo,hi)=some (decide (lo≤n∧n≤hi)):=lT n lo hi
theorem yA (n lo hi:Int):nj (n,lo,hi)=some (decide (lo≤n∧n≤hi)):=lT n lo hi
theorem Md (n lo hi:Int):wb (n,lo,hi)=some (decide (lo≤n∧n≤hi)):=lT n lo hi
theorem Cg (n lo hi:Int):k9 (n,lo,hi)=some (decide (lo≤n∧n≤hi)):=lT n lo hi
theorem afl (n:Int):Bp n=some (decide (1≤n∧n≤1000000)):=by unfold Bp;rw[Md,af]
theorem G6 (n:Int):tJ n=some (decide (1≤n∧n≤1000000)):=by unfold tJ;rw[Cg,af]
theorem oX (p:aE):ky p=some (decide (bZ p)):=by
 unfold ky bZ
 simp only[FY,af,yZ]
 exact mC (by simp[and_assoc])
theorem tO (p:aE):oc p=some (decide (bZ p)):=by
 unfold oc bZ
 simp only[MX,af,yZ]
 exact mC (by simp[and_assoc])
def x7:List Int:=[0,2,4,5,7,9,11]
def jz (n:Int):Int:=(x7[n.toNat]?).getD 0
def num (p:aE):Int:=12*p.au+jz p.step+p.alter
theorem vR (n:Int):0≤jz n∧jz n≤11:=by
 unfold jz x7
 generalize n.toNat=k
 rcases k with _ | _ | _ | _ | _ | _ | _ | k<;>simp
theorem VY {n:Int} (h:0≤n∧n≤6):Mu n=some (jz n):=by
 have:n=0∨n=1∨n=2∨n=3∨n=4∨n=5∨n=6:=by omega
 rcases this with rfl | rfl | rfl | rfl | rfl | rfl | rfl<;>rfl
theorem mw {p:aE} (h:bZ p):jE p=some (num p):=by
 have hn:=vR p.step
 obtain⟨h1,h2,h3⟩:=h
 unfold jE
 rw[aJ (by omega),VY h1,af,aJ (by omega),aJ (by omega)]
 rfl
theorem VM {p:aE} (h:bZ p):tF p=some (num p):=by
 obtain⟨⟨h1,h2⟩,⟨h3,h4⟩,h5,h6⟩:=h
 have hn:=vR p.step
 have ha:av [0,2,4,5,7,9,11] p.step=some (jz p.step):=by
  show av x7 p.step=_
  unfold av jz
  rw[if_pos h1]
  have:p.step.toNat < x7.length:=by show _ < 7;omega
  rw[List.getElem?_eq_getElem this];rfl
 unfold tF
 rw[aJ (by omega),aX ha,aJ (by omega),aJ (by omega)]
 rfl
theorem Be (p:aE):tE p=some (if bZ p then(num p,0) else(0,1)):=by
 unfold tE
 rw[oX,af]
 by_cases h:bZ p
 ·rw[ak (by simp[h]),if_pos h,VM h,af]
 rw[ai (by simp[h]),if_neg h]
theorem Ca {p:aE} (h:bZ p):qj p=some (num p):=by
 unfold qj
 rw[Be,if_pos h,af]
theorem Fy {p:aE} (h:bZ p) : -1000≤num p∧num p≤1000:=by
 have:=vR p.step
 unfold bZ at h
 unfold num
 omega
def kx (p:aE):Prop:=bZ p∧(-2≤p.alter∧p.alter≤2)∧(0≤p.au∧p.au≤9)
instance (p:aE):Decidable (kx p):=inferInstanceAs (Decidable (_∧_∧_))
theorem VX (p:aE):Bs p=some (decide (kx p)):=by
 unfold Bs kx
 simp only[tO,MX,af,yZ]
 exact mC (by simp[and_assoc])
theorem afm (p:aE):FV p=some (decide (kx p)):=by
 unfold FV kx
 simp only[oX,Md,af,yZ]
 exact mC (by simp[and_assoc])
def kI (x y:Int):Int:=if x < y then -1 else if y < x then 1 else 0
theorem ahq {a b:Rat} (ha:my a) (hb:my b):Gj (a,b)=some (kI (a.n*b.d) (b.n*a.d),0):=by
 unfold Gj
 simp only[GP,af,vr,ha,hb,decide_true,Bool.not_true,Bool.false_eq_true,if_false]
 have key:∀ {x y:Rat},my x→my y → -9223372036854775808≤x.n*y.d∧x.n*y.d≤9223372036854775807:=by
  intro x y ⟨_,_,h3,h4,_⟩ ⟨h1,h2,_⟩
  have e1:x.n*y.d≤1000000000*y.d:=Int.mul_le_mul_of_nonneg_right h4 (by omega)
  have e2 : -1000000000*y.d≤x.n*y.d:=Int.mul_le_mul_of_nonneg_right h3 (by omega)
  omega
 rw[aJ (key ha hb),aJ (key hb ha)]
 unfold kI
 simp only[decide_eq_true_eq]
 split
 ·rfl
 split<;>rfl
def cF (q:Rat):Prop:=my q∧0≤q.n∧Int.tmod 1680 q.d=0
instance (q:Rat):Decidable (cF q):=inferInstanceAs (Decidable (_∧_∧_))
def ew (q:Rat):Int:=q.n*Int.tdiv 1680 q.d
theorem Cj {q:Rat} (h:my q):0≤Int.tdiv 1680 q.d∧Int.tdiv 1680 q.d≤1680:=by
 have h1:=h.1
 obtain⟨k,hk⟩:∃ k:Nat,q.d=k:=⟨q.d.toNat,by omega⟩
 rw[hk]
 exact⟨Int.tdiv_nonneg (by omega) (by omega),by
  have:=Int.tdiv_le_self (a:=1680) (k:Int) (by omega);exact this⟩
theorem mE {q:Rat} (h:cF q):0≤ew q∧ew q≤1680000000000:=by
 obtain⟨h1,h2,_⟩:=h
 obtain⟨h3,h4⟩:=Cj h1
 have h5:=h1.2.2.2.1
 unfold ew
 refine⟨Int.mul_nonneg h2 h3,?_⟩
 calc q.n*Int.tdiv 1680 q.d≤1000000000*1680:=Int.mul_le_mul h5 h4 h3 (by omega)
  _=1680000000000:=by decide
theorem A9 (q:Rat):tD q=some (if cF q then(ew q,true) else(0,false)):=by
 unfold tD
 rw[GP,af]
 by_cases h1:my q
 ·have hd:q.d≠0:=by have:=h1.1;omega
  have aS:(!(ay q.d 0))=true:=by simp[hd]
  rw[ak (by simp[h1])]
  by_cases h2:q.n < 0
  ·rw[ai (by simp[h2]),af,ai rfl,if_neg (by unfold cF;omega)]
  rw[ak (by simp[h2]),cq aS,af]
  by_cases h3:Int.tmod 1680 q.d=0
  ·have cr:cF q:=⟨h1,by omega,h3⟩
   have:=mE cr
   have:=Cj h1
   unfold ew at *
   rw[ak (by simp[h3]),cq aS,aJ (by omega),aJ (by omega),if_pos cr]
  rw[ai (by simp[h3]),if_neg (by unfold cF;simp[h3])]
 rw[ai (by simp[h1]),af,ai rfl,if_neg (fun h=>h1 h.1)]
theorem NO (q:Rat):tK q=some (if cF q then ew q else -1):=by
 unfold tK
 rw[GP,af]
 by_cases h1:my q
 ·have hd:q.d≠0:=by have:=h1.1;omega
  have aS:(!(ay q.d 0))=true:=by simp[hd]
  rw[ak (by simp[h1])]
  by_cases h2:q.n < 0
  ·rw[ai (by simp[h2]),af,ai rfl,if_neg (by unfold cF;omega)]
  rw[ak (by simp[h2]),cq aS,af]
  by_cases h3:Int.tmod 1680 q.d=0
  ·have cr:cF q:=⟨h1,by omega,h3⟩
   have:=mE cr
   have:=Cj h1
   unfold ew at *
   rw[ak (by simp[h3]),cq aS,aJ (by omega),aJ (by omega),if_pos cr]
  rw[ai (by simp[h3]),if_neg (by unfold cF;simp[h3])]
 rw[ai (by simp[h1]),af,ai rfl,if_neg (fun h=>h1 h.1)]
theorem agQ (a b:Int):F3 (a,b)=some (jd a b):=by
 unfold F3
 dsimp only
 have key:∀ (k:Nat) (a b:Int),b.natAbs≤k→aU (fun v2:(Int×Int)=>ab (!(ay v2.2 0)) (ar (!(ay v2.2 0)) <| some (.inl (v2.2,(Int.tmod v2.1 v2.2)))) (some (.inr v2.1))) (a,b)=some (jd a b):=by
  intro k
  induction k with
  | zero=>
   intro a b hb
   have:b=0:=by omega
   subst this
   rw[GB]
   exact kv (by dsimp only;rw[ak (by simp)])
  | succ k ih=>
   intro a b hb
   by_cases h:b=0
   ·subst h
    rw[GB]
    exact kv (by dsimp only;rw[ak (by simp)])
   rw[MQ h,oQ (z':=(b,a.tmod b)) (by dsimp only;rw[ai (by simp[h]),cq (by simp[h])])]
   refine ih b _ ?_
   have:(a.tmod b).natAbs < b.natAbs:=by rw[Int.natAbs_tmod];exact Nat.mod_lt _ (by omega)
   omega
 rw[key _ a b (Nat.le_refl _),af]
theorem Z2 {d:Int} (h1:1≤d) (h2:Int.tmod 1680 d=0):d≤1680:=by
 have:=Int.tmod_add_mul_tdiv 1680 d
 rw[h2] at this
 refine Classical.byContradiction fun h=>?_
 have hq:Int.tdiv 1680 d=0:=Int.tdiv_eq_zero_of_lt (by omega) (by omega)
 rw[hq] at this;omega
theorem tP (q:Rat):ni q=some (if cF q then ew q else -1):=by
 unfold ni
 by_cases h1:q.d < 1
 ·have:¬ cF q:=fun h=>by have:=h.1.1;omega
  rw[ai (by simp[h1]),af,ai rfl,if_neg this]
 have hd:q.d≠0:=by omega
 have aS:(!(ay q.d 0))=true:=by simp[hd]
 rw[ak (by simp[h1]),cq aS]
 by_cases h2:Int.tmod 1680 q.d=0
 ·rw[ak (by simp[h2])]
  by_cases h3:q.n < 0
  ·have:¬ cF q:=fun h=>by have:=h.2.1;omega
   rw[ai (by simp[h3]),af,ai rfl,if_neg this]
  rw[ak (by simp[h3])]
  by_cases h4:1000000000 < q.n
  ·have:¬ cF q:=fun h=>by have:=h.1.2.2.2.1;omega
   rw[ai (by simp[h4]),af,ai rfl,if_neg this]
  rw[ak (by simp[h4]),agQ,MP _ _ _ (Nat.le_refl _) (by omega) (by omega),af,af]
  have Sc:=Z2 (by omega) h2
  by_cases h5:Int.gcd q.n q.d=1
  ·have cr:cF q:=⟨⟨by omega,by omega,by omega,by omega,h5⟩,by omega,h2⟩
   have hk:=Cj cr.1
   have hp:=mE cr
   unfold ew at hp
   rw[ak (by simp[h5]),cq aS,aJ (by omega),aJ (by omega),if_pos cr]
   rfl
  have:¬ cF q:=fun h=>h5 h.1.2.2.2.2
  rw[ai (by simp;omega),if_neg this]
 have:¬ cF q:=fun h=>h2 h.2.2
 rw[ai (by simp[h2]),af,ai rfl,if_neg this]
theorem aiS {q:Rat} (h:cF q):0≤ew q:=(mE h).1
theorem Xu {q:Rat} (h:cF q):q.d*Int.tdiv 1680 q.d=1680∧0 < q.d∧0 < Int.tdiv 1680 q.d:=by
 have h1:=Int.tmod_add_mul_tdiv 1680 q.d
 rw[h.2.2] at h1
 have h2:=h.1.1
 have h3:=(Cj h.1).1
 refine⟨by omega,by omega,?_⟩
 rcases Int.lt_or_le 0 (Int.tdiv 1680 q.d) with h4 | h4
 ·exact h4
 have:Int.tdiv 1680 q.d=0:=by omega
 rw[this] at h1;simp at h1
end Go.Proofs.YtfhkmedbfiphbaaGreatDoor
namespace Go.Proofs.YtfhkmedbfiphbaaGreatDoor
open Go Go.aj Go.Sy
attribute [local instance] cD dh
def Mj (z:Int):Unit⊕Int:=if z=0 then .inl () else .inr z
theorem OK (l:List Int) (hl:l.length≤1000):Bg l=some (eD l):=by
 have key:∀ (n k:Nat),k+n=l.length→aU (fun v1:Int=>ab (aA v1 (l.length:Int)) (aa (av l v1) fun v2=>ab (!(ay v2 0)) (some (.inr (.inr v2))) (ar (az (v1+1)) <| some (.inl (v1+1)))) (some (.inr (.inl ())))) (k:Int)=some (Mj (eD (l.drop k))):=by
  intro n
  induction n with
  | zero=>
   intro k hk
   rw[List.drop_eq_nil_of_le (by omega)]
   refine kv ?_
   rw[ak (by simp;omega)];rfl
  | succ n ih=>
   intro k hk
   have aN:k < l.length:=by omega
   have hx:l[k]?=some l[k]:=List.getElem?_eq_getElem aN
   rw[List.drop_eq_getElem_cons aN]
   simp only[eD]
   by_cases h0:l[k]=0
   ·rw[if_pos h0,oQ (z':=((k+1:Nat):Int)) (by
     rw[ai (by simpa using aN),aX (aW hx),ak (by simp[h0]),aJ (by omega)];rfl)]
    exact ih (k+1) (by omega)
   rw[if_neg h0]
   refine kv ?_
   rw[ai (by simpa using aN),aX (aW hx),ai (by simp[h0])]
   simp[h0,Mj]
 have k0:=key l.length 0 (by omega)
 rw[List.drop_zero] at k0
 unfold Bg
 refine(Tn k0).trans ?_
 unfold Mj
 by_cases h:eD l=0
 ·rw[if_pos h,h];rfl
 rw[if_neg h];rfl
def nK (at_:List (Int×Int)) (a:ag):List Int:=[bB at_ a.aZ 0,a.part,ew a.start,a.bm,num a.aM,a.id]
theorem A8 (at_:List (Int×Int)) (a:ag):(nK at_ a).length=6:=rfl
def rJ (at_:List (Int×Int)) (a:ag):Prop:=(0≤bB at_ a.aZ 0∧bB at_ a.aZ 0≤1000000)∧(0≤a.part∧a.part≤1000000)∧cF a.start∧(0≤a.bm∧a.bm≤1000000)∧bZ a.aM∧(0≤a.id∧a.id≤1000000)
instance (at_:List (Int×Int)) (a:ag):Decidable (rJ at_ a):=inferInstanceAs (Decidable (_∧_∧_∧_∧_∧_))
theorem afg {at_:List (Int×Int)} {a b:ag} (ha:rJ at_ a) (hb:rJ at_ b):Mr (a,b,at_)=some (bM (nK at_) a b):=by
 obtain⟨a1,a2,a3,a4,a5,a6⟩:=ha
 obtain⟨b1,b2,b3,b4,b5,b6⟩:=hb
 have ta:=mE a3
 have tb:=mE b3
 have na:=Fy a5
 have nb:=Fy b5
 unfold Mr
 dsimp only
 rw[A9,if_pos a3,af,A9,if_pos b3,af,Be,if_pos a5,af,Be,if_pos b5,af]
 dsimp only
 rw[aJ (by omega),aJ (by omega),aJ (by omega),aJ (by omega),aJ (by omega),aJ (by omega),OK _ (by simp),af]
 rfl
end Go.Proofs.YtfhkmedbfiphbaaGreatDoor
namespace Go.Proofs.YtfhkmedbfiphbaaGreatDoor
open Go Go.aj Go.Sy
attribute [local instance] cD dh
noncomputable def yp:(List ag×List (Int×Int))→Option (List ag):=Cc rJ (fun at_=>bM (nK at_))
end Go.Proofs.YtfhkmedbfiphbaaGreatDoor
namespace Go.Proofs
open Go.Shelf
def Tryz.ah9:Go.Shelf.Ren:=⟨fun | 6=>155 | 15=>144 | 14=>190 | 28=>185 | 29=>186 | 20=>205 | 21=>206 | 22=>207 | 23=>208 | 24=>209 | 25=>210 | 26=>211 | 27=>212 | 46=>215 | 47=>198 | 48=>199 | 49=>216 | 50=>217 | 57=>219 | n=>n,fun | 22=>24 | 24=>60 | 25=>192 | 3=>3 | 39=>185 | 0=>0 | 53=>212 | 55=>214 | 4=>4 | 46=>205 | 45=>204 | 50=>121 | 5=>5 | 9=>9 | 66=>222 | 70=>226 | 76=>233 | 77=>196 | n=>n,fun | n=>n⟩
theorem Tryz.W8:Go.Proofs.SlLaysF0.n6 Tryz.prog Tryz.ah9:={
 mixed:=by kernel_rfl
 f6:=⟨Tryz.f155.name,by decide,Tryz.func155.trans (congrArg some (by kernel_rfl))⟩
 f14:=⟨Tryz.f190.name,by decide,Tryz.func190.trans (congrArg some (by kernel_rfl))⟩
 f15:=Tryz.func144.trans (congrArg some (by kernel_rfl))
 f20:=⟨Tryz.f205.name,by decide,Tryz.func205.trans (congrArg some (by kernel_rfl))⟩
 f21:=⟨Tryz.f206.name,by decide,Tryz.func206.trans (congrArg some (by kernel_rfl))⟩
 f22:=⟨Tryz.f207.name,by decide,Tryz.func207.trans (congrArg some (by kernel_rfl))⟩
 f23:=⟨Tryz.f208.name,by decide,Tryz.func208.trans (congrArg some (by kernel_rfl))⟩
 f24:=⟨Tryz.f209.name,by decide,Tryz.func209.trans (congrArg some (by kernel_rfl))⟩
 f25:=⟨Tryz.f210.name,by decide,Tryz.func210.trans (congrArg some (by kernel_rfl))⟩
 f26:=⟨Tryz.f211.name,by decide,Tryz.func211.trans (congrArg some (by kernel_rfl))⟩
 f27:=⟨Tryz.f212.name,by decide,Tryz.func212.trans (congrArg some (by kernel_rfl))⟩
 f28:=Tryz.func185.trans (congrArg some (by kernel_rfl))
 f29:=Tryz.func186.trans (congrArg some (by kernel_rfl))
 f46:=⟨Tryz.f215.name,by decide,Tryz.func215.trans (congrArg some (by kernel_rfl))⟩
 f47:=Tryz.func198.trans (congrArg some (by kernel_rfl))
 f48:=Tryz.func199.trans (congrArg some (by kernel_rfl))
 f49:=⟨Tryz.f216.name,by decide,Tryz.func216.trans (congrArg some (by kernel_rfl))⟩
 f50:=⟨Tryz.f217.name,by decide,Tryz.func217.trans (congrArg some (by kernel_rfl))⟩
 f57:=⟨Tryz.f219.name,by decide,Tryz.func219.trans (congrArg some (by kernel_rfl))⟩
 t0:=Tryz.underlying0
 a0:=Tryz.isAgg0
 z0:=Tryz.sizeOf0
 v0:=Tryz.zeroValue0
 t3:=Tryz.underlying3
 a3:=Tryz.isAgg3
 z3:=Tryz.sizeOf3
 v3:=Tryz.zeroValue3
 t4:=Tryz.underlying4
 a4:=Tryz.isAgg4
 z4:=Tryz.sizeOf4
 v4:=Tryz.zeroValue4
 t5:=Tryz.underlying5
 a5:=Tryz.isAgg5
 z5:=Tryz.sizeOf5
 v5:=Tryz.zeroValue5
 t9:=Tryz.underlying9
 a9:=Tryz.isAgg9
 z9:=Tryz.sizeOf9
 v9:=Tryz.zeroValue9
 t22:=Tryz.underlying24
 a22:=Tryz.isAgg24
 z22:=Tryz.sizeOf24
 v22:=Tryz.zeroValue24
 t25:=Tryz.underlying192
 a25:=Tryz.isAgg192
 z25:=Tryz.sizeOf192
 v25:=Tryz.zeroValue192
 t39:=Tryz.underlying185
 a39:=Tryz.isAgg185
 z39:=Tryz.sizeOf185
 v39:=Tryz.zeroValue185
 t45:=Tryz.underlying204
 a45:=Tryz.isAgg204
 z45:=Tryz.sizeOf204
 v45:=Tryz.zeroValue204
 t46:=Tryz.underlying205
 a46:=Tryz.isAgg205
 z46:=Tryz.sizeOf205
 v46:=Tryz.zeroValue205
 t50:=Tryz.underlying121
 a50:=Tryz.isAgg121
 z50:=Tryz.sizeOf121
 v50:=Tryz.zeroValue121
 t53:=Tryz.underlying212
 a53:=Tryz.isAgg212
 z53:=Tryz.sizeOf212
 v53:=Tryz.zeroValue212
 t55:=Tryz.underlying214
 a55:=Tryz.isAgg214
 z55:=Tryz.sizeOf214
 v55:=Tryz.zeroValue214
 t66:=Tryz.underlying222
 a66:=Tryz.isAgg222
 z66:=Tryz.sizeOf222
 v66:=Tryz.zeroValue222
 t70:=Tryz.underlying226
 a70:=Tryz.isAgg226
 z70:=Tryz.sizeOf226
 v70:=Tryz.zeroValue226
 t76:=Tryz.underlying233
 a76:=Tryz.isAgg233
 z76:=Tryz.sizeOf233
 v76:=Tryz.zeroValue233
 t77:=Tryz.underlying196
 a77:=Tryz.isAgg196
 z77:=Tryz.sizeOf196
 v77:=Tryz.zeroValue196 }
end Go.Proofs
namespace Go.Proofs.YtfhkmedbfiphbaaGreatDoor
open Go Go.aj Go.Sy Go.RowKit Go.Sort
attribute [local instance] cD oW
set_option maxRecDepth 10000
theorem ln:∀ (x:List (Int×Int)),∃ n:Int,∀ p∈x,p.1 < n
 | []=>⟨0,by simp⟩
 | p::x=>by
  obtain⟨n,hn⟩:=ln x
  refine⟨max n (p.1+1),fun q hq=>?_⟩
  rcases List.mem_cons.1 hq with rfl | hq
  ·omega
  have:=hn q hq;omega
theorem aff (at_:List (Int×Int)):∃ a,rJ at_ a:=by
 obtain⟨n,hn⟩:=ln at_
 refine⟨⟨1,1,n,0,0,⟨0,1⟩,⟨1,1⟩,⟨0,0,4⟩⟩,?_,by dsimp only;omega,show cF ⟨0,1⟩ by decide,by dsimp only;omega,show bZ ⟨0,0,4⟩ by decide,by dsimp only;omega⟩
 have:bB at_ n 0=0:=by
  unfold bB
  rw[List.find?_eq_none.2 (fun p hp=>by
   have:=hn p hp
   simp;omega)];rfl
 simp only[this]
 decide
theorem Ma (x:ag):aC.cells 5 x=[.int .i64 x.id,.int .i64 x.part,.int .i64 x.aZ,.int .i64 x.bm,.int .i64 x.bH,.int .i64 x.start.n,.int .i64 x.start.d,.int .i64 x.length.n,.int .i64 x.length.d,.int .i64 x.aM.step,.int .i64 x.aM.alter,.int .i64 x.aM.au]:=rfl
theorem Va (x:ag) (y:D) (hy:y∈aC.cells 5 x):∃ n,y = .int .i64 n:=by
 rw[Ma] at hy
 simp only[List.mem_cons,List.not_mem_nil,or_false] at hy
 rcases hy with rfl | rfl | rfl | rfl | rfl | rfl | rfl | rfl | rfl | rfl | rfl | rfl<;>exact⟨_,rfl⟩
noncomputable def Ci:nw:=⟨155,.st 5,[.aL 156 (.box (.map (.int .i64) (.int .i64)))],yp⟩
theorem aec:ue Tryz.prog Ci.f Ci.t Ci.args Ci.fn:=
 ai0 (@IL ⟨True⟩) (D0:=@IL oW) trivial rfl (i:=5) (k:=12) (t:= .box (.map (.int .i64) (.int .i64))) (ok:=rJ) (cf:=fun at_=>bM (nK at_)) (⟨0,0,0,0,0,⟨0,0⟩,⟨0,0⟩,⟨0,0,0⟩⟩:ag)
  (
   fun(x y:ag) h=>by
   rw[Ma,Ma] at h
   obtain⟨a1,a2,a3,a4,a5,⟨a6,a7⟩,⟨a8,a9⟩,sj,sm,a12⟩:=x
   obtain⟨b1,b2,b3,b4,b5,⟨b6,b7⟩,⟨b8,b9⟩,CP,CQ,Ou⟩:=y
   simp only[List.cons.injEq,D.int.injEq,true_and,and_true] at h
   obtain⟨rfl,rfl,rfl,rfl,rfl,rfl,rfl,rfl,rfl,rfl,rfl,rfl⟩:=h
   rfl)
  (fun x=>rfl)
  (
   fun(x:ag) y hy=>by
   obtain⟨n,rfl⟩:=Va x y hy
   rfl)
  (fun c=>aff c) (fun c=>Nt (A8 c))
  (fun(at_:List (Int×Int)) (x y:ag) hx hy=>@aB.kJ _ (@IL ⟨True⟩) _ _ (@ac9 ⟨True⟩) (x,y,at_) _ (afg hx hy))
  (Enters.of Tryz.func155 (by decide))
  (
   fun e tu _ De hs b c d w vs abe hH hb hd=>by
   exact AnyQ.slices_SortFunc_eq Tryz.W8 12 Tryz.isAgg60 Tryz.sizeOf60 _ (fun x=>rfl) (fun x v hv=>by
    simp only[List.mem_map] at hv
    obtain⟨y,hy,rfl⟩:=hv
    obtain⟨n,rfl⟩:=Va x.1 y hy
    rfl) _ (Xn hs) 156 vs b 0 c d w (Enters.of Tryz.func156 (by decide)) abe hH hb hd)
  (fun p c fv w=>AnyF.slices_SortFunc_none { Tryz.W8 with } p c fv w)
end Go.Proofs.YtfhkmedbfiphbaaGreatDoor
namespace Go.Proofs.YtfhkmedbfiphbaaGreatDoor
open Go Go.aj Go.Sy
noncomputable def FW:((List aD)×(List ag))→Option (List ag):=fun(v0,v1)=>aa (Bo v0) fun v2=>rL (List.isEmpty v1) (aa (yp (([]:List ag),v2)) fun v3=>some ([]:List ag)) (ar (decide ((List.append ([]:List ag) v1).length*96≤140737488355328∧(List.append ([]:List ag) v1).length≤9223372036854775807)) <| aa (yp ((List.append ([]:List ag) v1),v2)) fun v3=>some v3)
noncomputable def Bn:((List aD)×(List ag))→Option ((List ag)×Int):=fun(v0,v1)=>aa (wa (v0,v1)) fun v2=>ab (!v2) (some (([]:List ag),1)) (aa (FW (v0,v1)) fun v3=>some (v3,0))
noncomputable def tI:Score→Option Bool:=fun(v0)=>aa (aa (tJ v0.version) fun v1=>ab (!v1) (some true) (aa (Bk v0.bars) fun v2=>ab (!v2) (some true) (aa (Gl v0.parts) fun v3=>ab (!v3) (some true) (aa (wa (v0.bars,v0.notes)) fun v4=>ab (!v4) (some true) (aa (yo (v0.parts,v0.notes)) fun v5=>some (!(ay v5 0))))))) fun(v1:Bool)=>ab v1 (some false) (aa (Bn (v0.bars,v0.notes)) fun v2=>aa (ab (ay v2.2 0) (aa (MK (v2.1,v0.notes)) fun v3=>some v3) (some false)) fun(v3:Bool)=>some v3)
noncomputable def BM:(Score×View)→Option Bool:=fun(v0,v1)=>aa (aa (tI v0) fun v2=>ab (!v2) (some true) (some (!(ay (v1.bg.length:Int) (v0.bars.length:Int))))) fun(v2:Bool)=>ab v2 (some false) (aa (yq (v0,v1.part)) fun v3=>ab (!v3.2) (some false) (cw (aU (fun v4:(Int×(Int×(List (Int×Bool))))=>ab (aA v4.2.1 (v1.bg.length:Int)) (aa (av v1.bg v4.2.1) fun v5=>aa (av v0.bars v4.2.1) fun v6=>aa (BQ (v3.1,(v6,([]:List Written)))) fun v7=>aa (ab (!(ay v5.aZ v7.aZ)) (some true) (ab (!(ay v5.key v7.key)) (some true) (ab (!(HE v5.length v7.length)) (some true) (aa (Gx (v5.notes,())) fun v8=>some (!v8))))) fun(v8:Bool)=>ab v8 (some (.inr (.inr false))) (cw (aU (fun v9:(Int×(List (Int×Bool)))=>ab (aA v9.1 (v5.notes.length:Int)) (aa (av v5.notes v9.1) fun v10=>aa (BN (v10,v5.length)) fun v11=>ab (!v11) (some (.inr (.inr (.inr (.inr false))))) (ar (az (v9.1+1)) <| some (.inl ((v9.1+1),(bz v9.2 v10.id true))))) (some (.inr (.inl v9.2)))) (0,v4.2.2)) fun(v9:(List (Int×Bool)))=>ar (az (v4.1+(v5.notes.length:Int))) <| ar (az (v4.2.1+1)) <| some (.inl ((v4.1+(v5.notes.length:Int)),((v4.2.1+1),v9))))) (some (.inr (.inl (v4.1,v4.2.2))))) (0,(0,([]:List (Int×Bool))))) fun(v4:(Int×(List (Int×Bool))))=>aa (ab (leI v4.1 20000) (some (ay (v4.2.length:Int) v4.1)) (some false)) fun(v5:Bool)=>some v5))
noncomputable def MG:(Score×Int)→Option Bool:=fun(v0,v1)=>aa (aa (tI v0) fun v2=>ab v2 (aa (tJ v1) fun v3=>some v3) (some false)) fun(v2:Bool)=>some v2
noncomputable def MF:(Score×Int)→Option (Int×(Bool×Int)):=fun(v0,v1)=>aa (MG (v0,v1)) fun v2=>ab (!v2) (some (0,(false,1))) (aa (BL (v0.parts,(v1,()))) fun v3=>some (v3.1,(v3.2,0)))
noncomputable def ye:(Int×Score)→Option Part:=fun(v0,v1)=>aa (MF (v1,v0)) fun v2=>aa (av v1.parts v2.1) fun v3=>some v3
noncomputable def FO:(Score×Int)→Option oo:=fun(v0,v1)=>aa (ye (v1,v0)) fun v2=>aa (ye (v1,v0)) fun v3=>aa (ab (!(ay v2.of 0)) (aa (ye (v2.of,v0)) fun v4=>some (v4.id,(v4.mA,(v4.of,(v4.au,(v4.ma,(v4.shift.steps,(v4.shift.bG,(v4.low.step,(v4.low.alter,(v4.low.au,(v4.high.step,(v4.high.alter,v4.high.au))))))))))))) (some (v3.id,(v3.mA,(v3.of,(v3.au,(v3.ma,(v3.shift.steps,(v3.shift.bG,(v3.low.step,(v3.low.alter,(v3.low.au,(v3.high.step,(v3.high.alter,v3.high.au)))))))))))))) fun(v4:(Int×(Int×(Int×(Int×(Int×(Int×(Int×(Int×(Int×(Int×(Int×(Int×Int)))))))))))))=>some (⟨v2,v0,(⟨v4.1,v4.2.1,v4.2.2.1,v4.2.2.2.1,v4.2.2.2.2.1,(⟨v4.2.2.2.2.2.1,v4.2.2.2.2.2.2.1⟩:Interval),(⟨v4.2.2.2.2.2.2.2.1,v4.2.2.2.2.2.2.2.2.1,v4.2.2.2.2.2.2.2.2.2.1⟩:aE),(⟨v4.2.2.2.2.2.2.2.2.2.2.1,v4.2.2.2.2.2.2.2.2.2.2.2.1,v4.2.2.2.2.2.2.2.2.2.2.2.2⟩:aE)⟩:Part)⟩:oo)
noncomputable def Gk:(Score×(Int×(List ag)))→Option (Score×Int):=fun(v0,v1,v2)=>aa (aa (tI v0) fun v3=>ab (!v3) (some true) (aa (tJ v1) fun v4=>ab (!v4) (some true) (aa (wa (v0.bars,v2)) fun v5=>some (!v5)))) fun(v3:Bool)=>ab v3 (some ((⟨0,([]:List aD),([]:List Part),([]:List ag)⟩:Score),1)) (aa (yo (v0.parts,v2)) fun v4=>ab (!(ay v4 0)) (some ((⟨0,([]:List aD),([]:List Part),([]:List ag)⟩:Score),v4)) (aa (Bn (v0.bars,v2)) fun v5=>aa (MI v0.bars) fun v6=>aa (MJ v0.parts) fun v7=>some ((⟨v1,v6,v7,v5.1⟩:Score),0)))
noncomputable def iy:(Score×(Int×View))→Option (Score×(Int×Int)):=fun(v0,v1,v2)=>aa (ab (aA v1 1) (some true) (ab (aA 1000000 v1) (some true) (aa (BM (v0,v2)) fun v3=>some (!v3)))) fun(v3:Bool)=>ab v3 (some ((⟨0,([]:List aD),([]:List Part),([]:List ag)⟩:Score),(0,1))) (aa (FO (v0,v2.part)) fun v4=>aa (aU (fun v5:(Int×((List (Int×Bool))×(List ag)))=>ab (aA v5.1 (v4.of.notes.length:Int)) (aa (aa (av v4.of.notes v5.1) fun v6=>ab (!(ay v6.part v4.owner.id)) (ar (decide ((List.append v5.2.2 (v6::([]:List ag))).length*96≤140737488355328∧(List.append v5.2.2 (v6::([]:List ag))).length≤9223372036854775807)) <| some ((bz v5.2.1 v6.id true),(List.append v5.2.2 (v6::([]:List ag))))) (some (v5.2.1,v5.2.2))) fun(v6:((List (Int×Bool))×(List ag)))=>ar (az (v5.1+1)) <| some (.inl ((v5.1+1),(v6.1,v6.2)))) (some (.inr (v5.2.1,v5.2.2)))) (0,(([]:List (Int×Bool)),([]:List ag)))) fun(v5:((List (Int×Bool))×(List ag)))=>cw (aa (Mp (v4,(v2,v5.1))) fun v6=>aU (fun v7:(Int×(List ag))=>ab (aA v7.1 (v6.1.bg.length:Int)) (cw (aa (av v6.1.bg v7.1) fun v8=>aU (fun v9:(Int×(List ag))=>ab (aA v9.1 (v8.notes.length:Int)) (aa (av v8.notes v9.1) fun v10=>aa (av v6.2.1.of.bars v7.1) fun v11=>aa (FQ (v6.2.1,(v11,v10))) fun v12=>aa (ab (bB v6.2.2 v10.id false) (some 5) (some v12.2)) fun(mH:Int)=>ab (!(ay mH 0)) (some (.inr (.inr (.inr (.inr ((⟨0,([]:List aD),([]:List Part),([]:List ag)⟩:Score),(v12.1.id,mH))))))) (ar (decide ((List.append v9.2 (v12.1::([]:List ag))).length*96≤140737488355328∧(List.append v9.2 (v12.1::([]:List ag))).length≤9223372036854775807)) <| ab (!(ay mH 0)) (some (.inr (.inr (.inr (.inl (List.append v9.2 (v12.1::([]:List ag)))))))) (ar (az (v9.1+1)) <| some (.inl ((v9.1+1),(List.append v9.2 (v12.1::([]:List ag)))))))) (some (.inr (.inl v9.2)))) (0,v7.2)) fun(v8:(List ag))=>ar (az (v7.1+1)) <| some (.inl ((v7.1+1),v8))) (some (.inr (.inl v7.2)))) (0,v5.2)) fun(v6:(List ag))=>ab (aA 20000 (v6.length:Int)) (some ((⟨0,([]:List aD),([]:List Part),([]:List ag)⟩:Score),(0,2))) (aa (Gk (v0,(v1,v6))) fun v7=>ab (!(ay v7.2 0)) (some ((⟨0,([]:List aD),([]:List Part),([]:List ag)⟩:Score),(0,v7.2))) (some (v7.1,(0,0)))))
noncomputable def tC:(Score×View)→Option ((List bj)×Int):=fun(v0,v1)=>aa (iy (v0,(1,v1))) fun v2=>ab (!(ay v2.2.2 0)) (some (([]:List bj),v2.2.2)) (aa (Bj v0.notes) fun v3=>aa (Bj v2.1.notes) fun v4=>aa (aa (FT v3) fun v5=>aa (wi v5) fun v6=>aU (fun v7:(Int×(List bj))=>ab (aA v7.1 (v6.length:Int)) (aa (aa (av v6 v7.1) fun v8=>ab (!(fh v4 v8)) (ar (az ((v7.2.length:Int)+1)) <| ar (decide ((List.append v7.2 ((⟨2,((v7.2.length:Int)+1),1,(⟨v8,0,0,0,0,(⟨0,0⟩:Rat),(⟨0,0⟩:Rat),(⟨0,0,0⟩:aE)⟩:ag)⟩:bj)::([]:List bj))).length*120≤140737488355328∧(List.append v7.2 ((⟨2,((v7.2.length:Int)+1),1,(⟨v8,0,0,0,0,(⟨0,0⟩:Rat),(⟨0,0⟩:Rat),(⟨0,0,0⟩:aE)⟩:ag)⟩:bj)::([]:List bj))).length≤9223372036854775807)) <| some (List.append v7.2 ((⟨2,((v7.2.length:Int)+1),1,(⟨v8,0,0,0,0,(⟨0,0⟩:Rat),(⟨0,0⟩:Rat),(⟨0,0,0⟩:aE)⟩:ag)⟩:bj)::([]:List bj)))) (some v7.2)) fun(v8:(List bj))=>ar (az (v7.1+1)) <| some (.inl ((v7.1+1),v8))) (some (.inr v7.2))) (0,([]:List bj))) fun(v5:(List bj))=>aa (aa (FT v4) fun v6=>aa (wi v6) fun v7=>aU (fun v8:(Int×(List bj))=>ab (aA v8.1 (v7.length:Int)) (aa (aa (av v7 v8.1) fun v9=>aa (ab (!(fh v3 v9)) (some true) (some (!(iR (bB v3 v9 (⟨0,0,0,0,0,(⟨0,0⟩:Rat),(⟨0,0⟩:Rat),(⟨0,0,0⟩:aE)⟩:ag)) (bB v4 v9 (⟨0,0,0,0,0,(⟨0,0⟩:Rat),(⟨0,0⟩:Rat),(⟨0,0,0⟩:aE)⟩:ag)))))) fun(v10:Bool)=>ab v10 (ar (az ((v8.2.length:Int)+1)) <| ar (decide ((List.append v8.2 ((⟨1,((v8.2.length:Int)+1),1,(bB v4 v9 (⟨0,0,0,0,0,(⟨0,0⟩:Rat),(⟨0,0⟩:Rat),(⟨0,0,0⟩:aE)⟩:ag))⟩:bj)::([]:List bj))).length*120≤140737488355328∧(List.append v8.2 ((⟨1,((v8.2.length:Int)+1),1,(bB v4 v9 (⟨0,0,0,0,0,(⟨0,0⟩:Rat),(⟨0,0⟩:Rat),(⟨0,0,0⟩:aE)⟩:ag))⟩:bj)::([]:List bj))).length≤9223372036854775807)) <| some (List.append v8.2 ((⟨1,((v8.2.length:Int)+1),1,(bB v4 v9 (⟨0,0,0,0,0,(⟨0,0⟩:Rat),(⟨0,0⟩:Rat),(⟨0,0,0⟩:aE)⟩:ag))⟩:bj)::([]:List bj)))) (some v8.2)) fun(v9:(List bj))=>ar (az (v8.1+1)) <| some (.inl ((v8.1+1),v9))) (some (.inr v8.2))) (0,v5)) fun(v6:(List bj))=>some (v6,0))
noncomputable def BK:(Score×Int)→Option ((List ag)×Int):=fun(v0,v1)=>aa (tI v0) fun v2=>ab (!v2) (some (([]:List ag),1)) (aa (BL (v0.parts,(v1,()))) fun v3=>ab (!v3.2) (some (([]:List ag),22)) (aa (aa (av v0.parts v3.1) fun v4=>aa (Gp (v0,v4)) fun v5=>aU (fun v6:(Int×(List ag))=>ab (aA v6.1 (v5.1.notes.length:Int)) (aa (aa (av v5.1.notes v6.1) fun v7=>ab (!(ay v7.part v5.2.1)) (some v6.2) (ar (az (v7.aM.au+v5.2.2.au)) <| ar (decide ((List.append v6.2 ((⟨v7.id,v5.2.2.id,v7.aZ,v7.bm,v7.bH,v7.start,v7.length,(⟨v7.aM.step,v7.aM.alter,(v7.aM.au+v5.2.2.au)⟩:aE)⟩:ag)::([]:List ag))).length*96≤140737488355328∧(List.append v6.2 ((⟨v7.id,v5.2.2.id,v7.aZ,v7.bm,v7.bH,v7.start,v7.length,(⟨v7.aM.step,v7.aM.alter,(v7.aM.au+v5.2.2.au)⟩:aE)⟩:ag)::([]:List ag))).length≤9223372036854775807)) <| some (List.append v6.2 ((⟨v7.id,v5.2.2.id,v7.aZ,v7.bm,v7.bH,v7.start,v7.length,(⟨v7.aM.step,v7.aM.alter,(v7.aM.au+v5.2.2.au)⟩:aE)⟩:ag)::([]:List ag))))) fun(v7:(List ag))=>ar (az (v6.1+1)) <| some (.inl ((v6.1+1),v7))) (some (.inr v6.2))) (0,([]:List ag))) fun(v4:(List ag))=>some (v4,0)))
noncomputable def rT:(Score×Int)→Option (View×Int):=fun(v0,v1)=>aa (BK (v0,v1)) fun v2=>ab (!(ay v2.2 0)) (some ((⟨0,([]:List br)⟩:View),v2.2)) (aa (yq (v0,v1)) fun v3=>aa (aU (fun v4:(Int×((List ag)×(List br)))=>ab (aA v4.1 (v0.bars.length:Int)) (aa (av v0.bars v4.1) fun v5=>aa (aU (fun v6:((List ag)×(List Written))=>aa (ab (aA 0 (v6.1.length:Int)) (aa (av v6.1 0) fun v7=>some (ay v7.aZ v5.id)) (some false)) fun(v7:Bool)=>ab v7 (aa (av v6.1 0) fun v8=>aa (BR (v3.1,(v5,v8))) fun v9=>ar (decide ((List.append v6.2 (v9::([]:List Written))).length*80≤140737488355328∧(List.append v6.2 (v9::([]:List Written))).length≤9223372036854775807)) <| ar ((leI 0 1)&&(leI 1 (v6.1.length:Int))) <| some (.inl ((List.drop (Int.toNat 1) v6.1),(List.append v6.2 (v9::([]:List Written)))))) (some (.inr (v6.1,v6.2)))) (v4.2.1,([]:List Written))) fun(v6:((List ag)×(List Written)))=>aa (BQ (v3.1,(v5,v6.2))) fun v7=>ar (decide ((List.append v4.2.2 (v7::([]:List br))).length*56≤140737488355328∧(List.append v4.2.2 (v7::([]:List br))).length≤9223372036854775807)) <| ar (az (v4.1+1)) <| some (.inl ((v4.1+1),(v6.1,(List.append v4.2.2 (v7::([]:List br))))))) (some (.inr v4.2.2))) (0,(v2.1,([]:List br)))) fun(v4:(List br))=>some ((⟨v3.1.part.id,v4⟩:View),0))
noncomputable def Gy:(Score×View)→Option ((List ag)×Int):=fun(v0,v1)=>aa (BM (v0,v1)) fun v2=>ab (!v2) (some (([]:List ag),1)) (aa (yq (v0,v1.part)) fun v3=>cw (aU (fun v4:(Int×(List ag))=>ab (aA v4.1 (v1.bg.length:Int)) (cw (aa (av v1.bg v4.1) fun v5=>aU (fun v6:(Int×(List ag))=>ab (aA v6.1 (v5.notes.length:Int)) (aa (av v5.notes v6.1) fun v7=>aa (av v0.bars v4.1) fun v8=>aa (Bh (v3.1.part,(v8.key,v7.aM))) fun v9=>ab (!(ay v9.2 0)) (some (.inr (.inr (.inr (.inr (([]:List ag),3)))))) (ar (decide ((List.append v6.2 ((⟨v7.id,v3.1.part.id,v5.aZ,v7.bm,v7.bH,v7.start,v7.length,v9.1⟩:ag)::([]:List ag))).length*96≤140737488355328∧(List.append v6.2 ((⟨v7.id,v3.1.part.id,v5.aZ,v7.bm,v7.bH,v7.start,v7.length,v9.1⟩:ag)::([]:List ag))).length≤9223372036854775807)) <| ar (az (v6.1+1)) <| some (.inl ((v6.1+1),(List.append v6.2 ((⟨v7.id,v3.1.part.id,v5.aZ,v7.bm,v7.bH,v7.start,v7.length,v9.1⟩:ag)::([]:List ag))))))) (some (.inr (.inl v6.2)))) (0,v4.2)) fun(v5:(List ag))=>ar (az (v4.1+1)) <| some (.inl ((v4.1+1),v5))) (some (.inr (.inl v4.2)))) (0,([]:List ag))) fun(v4:(List ag))=>some (v4,0))
end Go.Proofs.YtfhkmedbfiphbaaGreatDoor
namespace Go.Proofs.YtfhkmedbfiphbaaGreatDoor
open Go Go.aj Go.Sy
attribute [local instance] oW
set_option maxRecDepth 100000
noncomputable def O8:Sy.Callee:=⟨108,[.list (.st 1),.list (.st 5)],[.list (.st 5)],FW⟩
theorem ac8:aB Tryz.prog O8:=Uc [HO] [Ci] ⟨Tz,trivial⟩ ⟨aec,trivial⟩ Tryz.func108 (by kernel_rfl) (fun a=>by kernel_rfl)
noncomputable def HN:Sy.Callee:=⟨56,[.list (.st 1),.list (.st 5)],[.list (.st 5),.int .i64],Bn⟩
theorem Tx:aB Tryz.prog HN:=kk [y9,O8] ⟨EN,ac8,trivial⟩ Tryz.func56 (by kernel_rfl) (fun a=>by kernel_rfl)
noncomputable def xa:Sy.Callee:=⟨22,[.st 6],[.bool],tI⟩
theorem AR:aB Tryz.prog xa:=kk [zf,HM,PS,y9,Ii,HN,P6] ⟨ES,Tw,adS,EN,T5,Tx,ad6,trivial⟩ Tryz.func22 (by kernel_rfl) (fun a=>by kernel_rfl)
noncomputable def Ij:Sy.Callee:=⟨33,[.st 6,.st 9],[.bool],BM⟩
theorem T6:aB Tryz.prog Ij:=kk [xa,Db,Ik,Qb,Qg] ⟨AR,Lj,T7,aeb,aeg,trivial⟩ Tryz.func33 (by kernel_rfl) (fun a=>by kernel_rfl)
noncomputable def PU:Sy.Callee:=⟨128,[.st 6,.int .i64],[.bool],MG⟩
theorem adU:aB Tryz.prog PU:=kk [xa,zf] ⟨AR,ES,trivial⟩ Tryz.func128 (by kernel_rfl) (fun a=>by kernel_rfl)
noncomputable def PQ:Sy.Callee:=⟨74,[.st 6,.int .i64],[.int .i64,.bool,.int .i64],MF⟩
theorem adQ:aB Tryz.prog PQ:=kk [PU,Ih] ⟨adU,T4,trivial⟩ Tryz.func74 (by kernel_rfl) (fun a=>by kernel_rfl)
noncomputable def OX:Sy.Callee:=⟨73,[.int .i64,.box (.st 6)],[.st 4],ye⟩
theorem acX:aB Tryz.prog OX:=kk [PQ] ⟨adQ,trivial⟩ Tryz.func73 (by kernel_rfl) (fun a=>by kernel_rfl)
noncomputable def OW:Sy.Callee:=⟨34,[.st 6,.int .i64],[.st 11],FO⟩
theorem acW:aB Tryz.prog OW:=kk [OX] ⟨acX,trivial⟩ Tryz.func34 (by kernel_rfl) (fun a=>by kernel_rfl)
noncomputable def PR:Sy.Callee:=⟨37,[.st 6,.int .i64,.list (.st 5)],[.st 6,.int .i64],Gk⟩
theorem adR:aB Tryz.prog PR:=kk [xa,zf,y9,Ii,HN,P1,P2] ⟨AR,ES,EN,T5,Tx,ad1,ad2,trivial⟩ Tryz.func37 (by kernel_rfl) (fun a=>by kernel_rfl)
noncomputable def qI:Sy.Callee:=⟨11,[.st 6,.int .i64,.st 9],[.st 6,.int .i64,.int .i64],iy⟩
theorem s8:aB Tryz.prog qI:=kk [Ij,OW,OY,O0,PR] ⟨T6,acW,acY,ac0,adR,trivial⟩ Tryz.func11 (by kernel_rfl) (fun a=>by kernel_rfl)
noncomputable def y8:Sy.Callee:=⟨14,[.st 6,.st 9],[.list (.st 10),.int .i64],tC⟩
theorem EM:aB Tryz.prog y8:=kk [qI,OV,O2,Da] ⟨s8,acV,ac2,aed,trivial⟩ Tryz.func14 (by kernel_rfl) (fun a=>by kernel_rfl)
noncomputable def Ie:Sy.Callee:=⟨29,[.st 6,.int .i64],[.list (.st 5),.int .i64],BK⟩
theorem T2:aB Tryz.prog Ie:=kk [xa,Ih,PX] ⟨AR,T4,adX,trivial⟩ Tryz.func29 (by kernel_rfl) (fun a=>by kernel_rfl)
noncomputable def zg:Sy.Callee:=⟨20,[.st 6,.int .i64],[.st 9,.int .i64],rT⟩
theorem ET:aB Tryz.prog zg:=kk [Ie,Db,Qj,Ik] ⟨T2,Lj,aej,T7,trivial⟩ Tryz.func20 (by kernel_rfl) (fun a=>by kernel_rfl)
noncomputable def Qc:Sy.Callee:=⟨28,[.st 6,.st 9],[.list (.st 5),.int .i64],Gy⟩
theorem aee:aB Tryz.prog Qc:=kk [Ij,Db,HH] ⟨T6,Lj,Tq,trivial⟩ Tryz.func28 (by kernel_rfl) (fun a=>by kernel_rfl)
end Go.Proofs.YtfhkmedbfiphbaaGreatDoor
namespace Go.Proofs.YtfhkmedbfiphbaaGreatDoor
open Go Go.aj Go.Sy
noncomputable def tB:Unit→Option Bool:=fun()=>aa (FM ()) fun v0=>aa (rT (v0,3)) fun v1=>aa (ab (!(ay v1.2 0)) (some true) (ab (!(ay (v1.1.bg.length:Int) 1)) (some true) (aa (av v1.1.bg 0) fun v2=>ab (!(ay (v2.notes.length:Int) 1)) (some true) (aa (av v1.1.bg 0) fun v3=>aa (av v3.notes 0) fun v4=>some (!(Yy v4.aM (⟨5,0,3⟩:aE))))))) fun(v2:Bool)=>ab v2 (some false) (aa (av v1.1.bg 0) fun v3=>aa (av v1.1.bg 0) fun v4=>aa (av v4.notes 0) fun v5=>ar ((leI 0 0)&&(aA 0 ((v5::([]:List Written)).length:Int))) <| aa (av (v5::([]:List Written)) 0) fun v6=>aa (iy (v0,(2,(⟨v1.1.part,((⟨v3.aZ,v3.key,v3.length,(List.set (v5::([]:List Written)) (Int.toNat 0) (⟨v6.id,v6.bm,v6.bH,v6.start,v6.length,(⟨6,v6.aM.alter,v6.aM.au⟩:aE)⟩:Written))⟩:br)::([]:List br))⟩:View)))) fun v7=>ar (pt (.aI (.st 6) (.aI (.int .i64) (.int .i64))) (.st 8) v7 (⟨v3.aZ,v3.key,v3.length,(List.set (v5::([]:List Written)) (Int.toNat 0) (⟨v6.id,v6.bm,v6.bH,v6.start,v6.length,(⟨6,v6.aM.alter,v6.aM.au⟩:aE)⟩:Written))⟩:br)) <| ar (pt (.aI (.st 6) (.aI (.int .i64) (.int .i64))) (.list (.st 7)) v7 (List.set (v5::([]:List Written)) (Int.toNat 0) (⟨v6.id,v6.bm,v6.bH,v6.start,v6.length,(⟨6,v6.aM.alter,v6.aM.au⟩:aE)⟩:Written))) <| aa (tC (v0,(⟨v1.1.part,((⟨v3.aZ,v3.key,v3.length,(List.set (v5::([]:List Written)) (Int.toNat 0) (⟨v6.id,v6.bm,v6.bH,v6.start,v6.length,(⟨6,v6.aM.alter,v6.aM.au⟩:aE)⟩:Written))⟩:br)::([]:List br))⟩:View))) fun v8=>ar (pt (.aI (.list (.st 10)) (.int .i64)) (.st 8) v8 (⟨v3.aZ,v3.key,v3.length,(List.set (v5::([]:List Written)) (Int.toNat 0) (⟨v6.id,v6.bm,v6.bH,v6.start,v6.length,(⟨6,v6.aM.alter,v6.aM.au⟩:aE)⟩:Written))⟩:br)) <| ar (pt (.aI (.list (.st 10)) (.int .i64)) (.list (.st 7)) v8 (List.set (v5::([]:List Written)) (Int.toNat 0) (⟨v6.id,v6.bm,v6.bH,v6.start,v6.length,(⟨6,v6.aM.alter,v6.aM.au⟩:aE)⟩:Written))) <| ar ((leI 0 0)&&(aA 0 ((List.set (v5::([]:List Written)) (Int.toNat 0) (⟨v6.id,v6.bm,v6.bH,v6.start,v6.length,(⟨6,v6.aM.alter,v6.aM.au⟩:aE)⟩:Written)).length:Int))) <| aa (av (List.set (v5::([]:List Written)) (Int.toNat 0) (⟨v6.id,v6.bm,v6.bH,v6.start,v6.length,(⟨6,v6.aM.alter,v6.aM.au⟩:aE)⟩:Written)) 0) fun v9=>aa (iy (v0,(2,(⟨v1.1.part,((⟨v3.aZ,v3.key,v3.length,(List.set (List.set (v5::([]:List Written)) (Int.toNat 0) (⟨v6.id,v6.bm,v6.bH,v6.start,v6.length,(⟨6,v6.aM.alter,v6.aM.au⟩:aE)⟩:Written)) (Int.toNat 0) (⟨6,v9.bm,v9.bH,v9.start,v9.length,v9.aM⟩:Written))⟩:br)::([]:List br))⟩:View)))) fun v10=>ar (pt (.aI (.st 6) (.aI (.int .i64) (.int .i64))) (.st 8) v10 (⟨v3.aZ,v3.key,v3.length,(List.set (List.set (v5::([]:List Written)) (Int.toNat 0) (⟨v6.id,v6.bm,v6.bH,v6.start,v6.length,(⟨6,v6.aM.alter,v6.aM.au⟩:aE)⟩:Written)) (Int.toNat 0) (⟨6,v9.bm,v9.bH,v9.start,v9.length,v9.aM⟩:Written))⟩:br)) <| ar (pt (.aI (.st 6) (.aI (.int .i64) (.int .i64))) (.list (.st 7)) v10 (List.set (List.set (v5::([]:List Written)) (Int.toNat 0) (⟨v6.id,v6.bm,v6.bH,v6.start,v6.length,(⟨6,v6.aM.alter,v6.aM.au⟩:aE)⟩:Written)) (Int.toNat 0) (⟨6,v9.bm,v9.bH,v9.start,v9.length,v9.aM⟩:Written))) <| aa (av v1.1.bg 0) fun v11=>aa (av v11.notes 0) fun v12=>ar ((leI 0 0)&&(aA 0 ((List.set (List.set (v5::([]:List Written)) (Int.toNat 0) (⟨v6.id,v6.bm,v6.bH,v6.start,v6.length,(⟨6,v6.aM.alter,v6.aM.au⟩:aE)⟩:Written)) (Int.toNat 0) (⟨6,v9.bm,v9.bH,v9.start,v9.length,v9.aM⟩:Written)).length:Int))) <| aa (av (List.set (List.set (v5::([]:List Written)) (Int.toNat 0) (⟨v6.id,v6.bm,v6.bH,v6.start,v6.length,(⟨6,v6.aM.alter,v6.aM.au⟩:aE)⟩:Written)) (Int.toNat 0) (⟨6,v9.bm,v9.bH,v9.start,v9.length,v9.aM⟩:Written)) 0) fun mH=>ar ((leI 0 0)&&(aA 0 ((List.set (List.set (List.set (v5::([]:List Written)) (Int.toNat 0) (⟨v6.id,v6.bm,v6.bH,v6.start,v6.length,(⟨6,v6.aM.alter,v6.aM.au⟩:aE)⟩:Written)) (Int.toNat 0) (⟨6,v9.bm,v9.bH,v9.start,v9.length,v9.aM⟩:Written)) (Int.toNat 0) v12).length:Int))) <| aa (av (List.set (List.set (List.set (v5::([]:List Written)) (Int.toNat 0) (⟨v6.id,v6.bm,v6.bH,v6.start,v6.length,(⟨6,v6.aM.alter,v6.aM.au⟩:aE)⟩:Written)) (Int.toNat 0) (⟨6,v9.bm,v9.bH,v9.start,v9.length,v9.aM⟩:Written)) (Int.toNat 0) v12) 0) fun ey=>aa (iy (v0,(2,(⟨v1.1.part,((⟨v3.aZ,v3.key,v3.length,(List.set (List.set (List.set (List.set (v5::([]:List Written)) (Int.toNat 0) (⟨v6.id,v6.bm,v6.bH,v6.start,v6.length,(⟨6,v6.aM.alter,v6.aM.au⟩:aE)⟩:Written)) (Int.toNat 0) (⟨6,v9.bm,v9.bH,v9.start,v9.length,v9.aM⟩:Written)) (Int.toNat 0) v12) (Int.toNat 0) (⟨ey.id,ey.bm,ey.bH,ey.start,ey.length,(⟨ey.aM.step,ey.aM.alter,12⟩:aE)⟩:Written))⟩:br)::([]:List br))⟩:View)))) fun mI=>ar (pt (.aI (.st 6) (.aI (.int .i64) (.int .i64))) (.st 8) mI (⟨v3.aZ,v3.key,v3.length,(List.set (List.set (List.set (List.set (v5::([]:List Written)) (Int.toNat 0) (⟨v6.id,v6.bm,v6.bH,v6.start,v6.length,(⟨6,v6.aM.alter,v6.aM.au⟩:aE)⟩:Written)) (Int.toNat 0) (⟨6,v9.bm,v9.bH,v9.start,v9.length,v9.aM⟩:Written)) (Int.toNat 0) v12) (Int.toNat 0) (⟨ey.id,ey.bm,ey.bH,ey.start,ey.length,(⟨ey.aM.step,ey.aM.alter,12⟩:aE)⟩:Written))⟩:br)) <| ar (pt (.aI (.st 6) (.aI (.int .i64) (.int .i64))) (.list (.st 7)) mI (List.set (List.set (List.set (List.set (v5::([]:List Written)) (Int.toNat 0) (⟨v6.id,v6.bm,v6.bH,v6.start,v6.length,(⟨6,v6.aM.alter,v6.aM.au⟩:aE)⟩:Written)) (Int.toNat 0) (⟨6,v9.bm,v9.bH,v9.start,v9.length,v9.aM⟩:Written)) (Int.toNat 0) v12) (Int.toNat 0) (⟨ey.id,ey.bm,ey.bH,ey.start,ey.length,(⟨ey.aM.step,ey.aM.alter,12⟩:aE)⟩:Written))) <| aa (iy (v0,(0,v1.1))) fun pj=>aa (ab (!(ay v7.2.2 0)) (some true) (ab (!(ay v8.2 0)) (some true) (ab (!(ay v10.2.2 5)) (some true) (ab (!(ay mI.2.2 20)) (some true) (ab (!(ay pj.2.2 1)) (some true) (ab (!(ay v7.2.1 0)) (some true) (ab (!(ay v10.2.1 6)) (some true) (ab (!(ay mI.2.1 5)) (some true) (ab (!(ay pj.2.1 0)) (some true) (some (!(ay (v8.1.length:Int) 1)))))))))))) fun(v17:Bool)=>ab v17 (some false) (aa (FM ()) fun fj=>aa (vZ (5,(1,(5,4)))) fun cY=>aa (vZ (6,(2,(0,5)))) fun v20=>aa (aa (oY (v7.1,(⟨2,fj.bars,fj.parts,(cY::(v20::([]:List ag)))⟩:Score))) fun v21=>ab v21 (aa (av v8.1 0) fun v22=>aa (vZ (5,(1,(5,4)))) fun v23=>some (CS v22 (⟨1,1,1,v23⟩:bj))) (some false)) fun(v21:Bool)=>some v21))
noncomputable def VA:(Score×(Int×View))→Option Bool:=fun(v0,v1,v2)=>aa (tB ()) fun v3=>aa (Bi (v0,v2)) fun v4=>ab (!v4) (some v3) (aa (iy (v0,(v1,v2))) fun v5=>aa (BJ (v0,(v1,v2))) fun v6=>aa (ab v3 (aa (oY (v5.1,v6.1)) fun v7=>ab v7 (ab (ay v5.2.1 v6.2.1) (some (ay v5.2.2 v6.2.2)) (some false)) (some false)) (some false)) fun(v7:Bool)=>aa (tC (v0,v2)) fun v8=>aa (Gh (v0,v2)) fun v9=>aa (ab v7 (aa (MC (v8.1,v9.1)) fun v10=>ab v10 (some (ay v8.2 v9.2)) (some false)) (some false)) fun(v10:Bool)=>some v10)
noncomputable def VC:(Score×View)→Option Bool:=fun(v0,v1)=>aa (tB ()) fun v2=>aa (qh (v0,v1)) fun v3=>ab (!v3) (some v2) (aa (iy (v0,(7,v1))) fun v4=>ab (!(ay v4.2.2 0)) (aa (ab v2 (ab (ay v4.2.2 5) (aa (yd v1) fun v5=>aa (rR (v5,v4.2.1)) fun v6=>ab v6 (aa (oY (v4.1,(⟨0,([]:List aD),([]:List Part),([]:List ag)⟩:Score))) fun v7=>some v7) (some false)) (ab (ay v4.2.2 20) (aa (yd v1) fun v5=>aa (rR (v5,v4.2.1)) fun v6=>ab v6 (aa (oY (v4.1,(⟨0,([]:List aD),([]:List Part),([]:List ag)⟩:Score))) fun v7=>some v7) (some false)) (some false))) (some false)) fun(v5:Bool)=>some v5) (aa (rT (v4.1,v1.part)) fun v5=>aa (ab v2 (ab (ay v4.2.1 0) (ab (ay v5.2 0) (aa (BF (v1,v5.1)) fun v6=>ab v6 (aa (tI v4.1) fun v7=>ab v7 (some (ay v4.1.version 7)) (some false)) (some false)) (some false)) (some false)) (some false)) fun(v6:Bool)=>some v6))
noncomputable def Vz:(Score×Int)→Option Bool:=fun(v0,v1)=>aa (tB ()) fun v2=>aa (aa (BB v0) fun v3=>ab (!v3) (some true) (aa (yj v0) fun v4=>some (!v4))) fun(v3:Bool)=>ab v3 (some v2) (ar (!(ay (v0.parts.length:Int) 0)) <| aa (av v0.parts (Int.tmod (IntKind.wrap .i64 v1) (v0.parts.length:Int))) fun v4=>aa (rT (v0,v4.id)) fun v5=>aa (iy (v0,(v0.version,v5.1))) fun v6=>aa (tC (v0,v5.1)) fun v7=>aa (ab v2 (ab (ay v5.2 0) (ab (ay v6.2.2 0) (ab (ay v7.2 0) (ab (ay v6.2.1 0) (aa (oY (v0,v6.1)) fun v8=>ab v8 (some (ay (v7.1.length:Int) 0)) (some false)) (some false)) (some false)) (some false)) (some false)) (some false)) fun(v8:Bool)=>some v8)
noncomputable def VD:(Score×(View×View))→Option Bool:=fun(v0,v1,v2)=>aa (tB ()) fun v3=>aa (aa (qh (v0,v1)) fun v4=>ab (!v4) (some true) (aa (qh (v0,v2)) fun v5=>ab (!v5) (some true) (some (!(ay v1.part v2.part))))) fun(v4:Bool)=>ab v4 (some v3) (aa (iy (v0,(7,v1))) fun v5=>ab (!(ay v5.2.2 0)) (some v3) (aa (iy (v0,(8,v2))) fun v6=>aa (iy (v5.1,(8,v2))) fun v7=>aa (ab v3 (ab (ay v6.2.2 v7.2.2) (ab (ay v6.2.1 v7.2.1) (aa (oY (v6.1,v7.1)) fun v8=>some v8) (some false)) (some false)) (some false)) fun(v8:Bool)=>some v8))
noncomputable def Vy:(Score×View)→Option Bool:=fun(v0,v1)=>aa (tB ()) fun v2=>aa (qh (v0,v1)) fun v3=>ab (!v3) (some v2) (aa (iy (v0,(7,v1))) fun v4=>aa (tC (v0,v1)) fun v5=>ab (!(ay v4.2.2 0)) (aa (ab v2 (ab (ay v5.2 v4.2.2) (some (ay (v5.1.length:Int) 0)) (some false)) (some false)) fun(v6:Bool)=>some v6) (cw (aU (fun v6:(Bool×(Int×(List (Int×Bool))))=>ab (aA v6.2.1 (v5.1.length:Int)) (cw (aa (av v5.1 v6.2.1) fun v7=>aa (jc (v4.1.notes,v7.note.id)) fun v8=>aa (ab (bB v6.2.2 v7.note.id false) (some true) (ar (az (v6.2.1+1)) <| ab (!(ay v7.clock (v6.2.1+1))) (some true) (some (!(ay v7.mc 1))))) fun(v9:Bool)=>ab v9 (some (.inr (.inr (.inr false)))) (ab (ay v7.kind 2) (aa (ab v6.1 (ab (aA v8 0) (aa (jc (v0.notes,v7.note.id)) fun v10=>ab (leI 0 v10) (some (iR v7.note (⟨v7.note.id,0,0,0,0,(⟨0,0⟩:Rat),(⟨0,0⟩:Rat),(⟨0,0,0⟩:aE)⟩:ag))) (some false)) (some false)) (some false)) fun(v10:Bool)=>some (.inl (v10,(bz v6.2.2 v7.note.id true)))) (ab v6.1 (ab (ay v7.kind 1) (ab (leI 0 v8) (aa (av v4.1.notes v8) fun v10=>some (.inl ((iR v10 v7.note),(bz v6.2.2 v7.note.id true)))) (some (.inl (false,(bz v6.2.2 v7.note.id true))))) (some (.inl (false,(bz v6.2.2 v7.note.id true))))) (some (.inl (false,(bz v6.2.2 v7.note.id true))))))) fun(v7:(Bool×(List (Int×Bool))))=>ar (az (v6.2.1+1)) <| some (.inl (v7.1,((v6.2.1+1),v7.2)))) (some (.inr (.inl (v6.1,v6.2.2))))) (v2,(0,([]:List (Int×Bool))))) fun(v6:(Bool×(List (Int×Bool))))=>aa (ar (decide ((List.append ([]:List ag) v0.notes).length*96≤140737488355328∧(List.append ([]:List ag) v0.notes).length≤9223372036854775807)) <| ar (decide ((List.append (List.append ([]:List ag) v0.notes) v4.1.notes).length*96≤140737488355328∧(List.append (List.append ([]:List ag) v0.notes) v4.1.notes).length≤9223372036854775807)) <| aU (fun v7:(Bool×Int)=>ab (aA v7.2 ((List.append (List.append ([]:List ag) v0.notes) v4.1.notes).length:Int)) (aa (ar ((leI 0 v7.2)&&(aA v7.2 ((List.append (List.append ([]:List ag) v0.notes) v4.1.notes).length:Int))) <| aa (av (List.append (List.append ([]:List ag) v0.notes) v4.1.notes) v7.2) fun v8=>aa (jc (v0.notes,v8.id)) fun v9=>aa (jc (v4.1.notes,v8.id)) fun v10=>ab v7.1 (ab (aA v9 0) (some ((bB v6.2 v8.id false) == true)) (ab (aA v10 0) (some ((bB v6.2 v8.id false) == true)) (aa (av v0.notes v9) fun v11=>aa (av v4.1.notes v10) fun v12=>some ((bB v6.2 v8.id false) == (!(iR v11 v12)))))) (some false)) fun(v8:Bool)=>ar (az (v7.2+1)) <| some (.inl (v8,(v7.2+1)))) (some (.inr v7.1))) (v6.1,0)) fun(v7:Bool)=>aa (ab v7 (some (ay v5.2 0)) (some false)) fun(v8:Bool)=>some v8))
noncomputable def VB:(Score×(View×Int))→Option Bool:=fun(v0,v1,v2)=>aa (tB ()) fun v3=>aa (qh (v0,v1)) fun v4=>ab (!v4) (some v3) (aa (iy (v0,(7,v1))) fun v5=>ab (!(ay v5.2.2 0)) (some v3) (aa (qi (v0.parts,v1.part)) fun v6=>aa (av v0.parts v6) fun v7=>ar (!(ay (v0.parts.length:Int) 0)) <| aa (av v0.parts (Int.tmod (IntKind.wrap .i64 v2) (v0.parts.length:Int))) fun v8=>aa (rT (v0,v8.id)) fun v9=>aa (rT (v5.1,v8.id)) fun v10=>aa (ab (!(ay v9.2 0)) (some true) (some (!(ay v10.2 0)))) fun(v11:Bool)=>ab v11 (some false) (aa (tG v7) fun v12=>aa (tG v8) fun mH=>ab (!(ay v12 mH)) (aa (ab v3 (aa (BF (v9.1,v10.1)) fun ey=>some ey) (some false)) fun(ey:Bool)=>some ey) (aa (Gy (v0,v1)) fun ey=>aa (BK (v5.1,v8.id)) fun mI=>aa (iy (v5.1,(7,v10.1))) fun pj=>aa (ab (!(ay ey.2 0)) (some true) (ab (!(ay mI.2 0)) (some true) (ab (!(ay pj.2.2 0)) (some true) (ab (!(ay (ey.1.length:Int) (mI.1.length:Int))) (some true) (aa (oY (v5.1,pj.1)) fun v17=>some (!v17)))))) fun(v17:Bool)=>ab v17 (some false) (aa (aU (fun fj:(Bool×Int)=>ab (aA fj.2 (ey.1.length:Int)) (aa (aa (av ey.1 fj.2) fun cY=>ar (az (cY.aM.au - v7.au)) <| ar (az ((cY.aM.au - v7.au)+v8.au)) <| ab fj.1 (aa (av mI.1 fj.2) fun v20=>some (iR v20 (⟨cY.id,v8.id,cY.aZ,cY.bm,cY.bH,cY.start,cY.length,(⟨cY.aM.step,cY.aM.alter,((cY.aM.au - v7.au)+v8.au)⟩:aE)⟩:ag))) (some false)) fun(cY:Bool)=>ar (az (fj.2+1)) <| some (.inl (cY,(fj.2+1)))) (some (.inr fj.1))) (v3,0)) fun(fj:Bool)=>some fj)))))
end Go.Proofs.YtfhkmedbfiphbaaGreatDoor
namespace Go.Proofs.YtfhkmedbfiphbaaGreatDoor
open Go Go.aj Go.Sy
attribute [local instance] oW
set_option maxRecDepth 100000
noncomputable def ug:Sy.Callee:=⟨9,[],[.bool],tB⟩
theorem xO:aB Tryz.prog ug:=kkH [OU,zg,qI,y8,HK,uk] ⟨acU,ET,s8,EM,Tu,xS,trivial⟩ Tryz.func9 (by kernel_rfl) (fun a=>by kernel_rfl)
noncomputable def YS:Sy.Callee:=⟨3,[.st 6,.int .i64,.st 9],[.bool],VA⟩
theorem acP:aB Tryz.prog YS:=kk [ug,HJ,qI,Ic,uk,y8,PK,PL] ⟨xO,Tt,s8,TZ,xS,EM,adK,adL,trivial⟩ Tryz.func3 (by kernel_rfl) (fun a=>by kernel_rfl)
noncomputable def YU:Sy.Callee:=⟨4,[.st 6,.st 9],[.bool],VC⟩
theorem acR:aB Tryz.prog YU:=kk [ug,y7,qI,OT,H8,uk,zg,H9,xa] ⟨xO,EL,s8,acT,TU,xS,ET,TV,AR,trivial⟩ Tryz.func4 (by kernel_rfl) (fun a=>by kernel_rfl)
noncomputable def YR:Sy.Callee:=⟨5,[.st 6,.int .u8],[.bool],Vz⟩
theorem acO:aB Tryz.prog YR:=kk [ug,H3,C8,zg,qI,y8,uk] ⟨xO,TP,Li,ET,s8,EM,xS,trivial⟩ Tryz.func5 (by kernel_rfl) (fun a=>by kernel_rfl)
noncomputable def YV:Sy.Callee:=⟨6,[.st 6,.st 9,.st 9],[.bool],VD⟩
theorem acS:aB Tryz.prog YV:=kk [ug,y7,qI,uk] ⟨xO,EL,s8,xS,trivial⟩ Tryz.func6 (by kernel_rfl) (fun a=>by kernel_rfl)
noncomputable def YQ:Sy.Callee:=⟨7,[.st 6,.st 9],[.bool],Vy⟩
theorem acN:aB Tryz.prog YQ:=kk [ug,y7,qI,y8,C6] ⟨xO,EL,s8,EM,Lg,trivial⟩ Tryz.func7 (by kernel_rfl) (fun a=>by kernel_rfl)
noncomputable def YT:Sy.Callee:=⟨8,[.st 6,.st 9,.int .u8],[.bool],VB⟩
theorem acQ:aB Tryz.prog YT:=kk [ug,y7,qI,uj,zg,C7,H9,Qc,Ie,uk] ⟨xO,EL,s8,xR,ET,Lh,TV,aee,T2,xS,trivial⟩ Tryz.func8 (by kernel_rfl) (fun a=>by kernel_rfl)
end Go.Proofs.YtfhkmedbfiphbaaGreatDoor
namespace Go.Proofs.YtfhkmedbfiphbaaGreatDoor
open Go Go.aj Go.Sy
attribute [local instance] cD dh
def l4 (b:aD):Prop:=(1≤b.id∧b.id≤1000000)∧cF b.length∧(1≤ew b.length∧ew b.length≤40320)∧(-7≤b.key∧b.key≤7)
instance (b:aD):Decidable (l4 b):=inferInstanceAs (Decidable (_∧_∧_∧_))
def iC (l:List aD):Prop:=(1≤l.length∧l.length≤4000)∧(∀ b∈l,l4 b)∧(l.map aD.id).Nodup
instance (l:List aD):Decidable (iC l):=inferInstanceAs (Decidable (_∧_∧_))
theorem afQ (a b c d:Bool):ab a (some true) (ab b (some true) (ab c (some true) (some d)))=some (a||b||c||d):=by cases a<;>cases b<;>cases c<;>rfl
theorem afR (a b c d e:Bool):ab a (some true) (ab b (some true) (ab c (some true) (ab d (some true) (some e))))=some (a||b||c||d||e):=by cases a<;>cases b<;>cases c<;>cases d<;>rfl
theorem afS (a b c d e f:Bool):ab a (some true) (ab b (some true) (ab c (some true) (ab d (some true) (ab e (some true) (some f)))))=some (a||b||c||d||e||f):=by cases a<;>cases b<;>cases c<;>cases d<;>cases e<;>rfl
theorem agP (b:aD):(decide (b.id < 1)||decide (1000000 < b.id)||decide ((if cF b.length then ew b.length else -1) < 1)||decide (40320 < (if cF b.length then ew b.length else -1))||decide (b.key < -7)||decide (7 < b.key)) = !decide (l4 b):=by
 unfold l4
 by_cases h:cF b.length
 ·simp only[h,if_true,true_and]
  rw[Bool.eq_iff_iff]
  simp only[Bool.or_eq_true,decide_eq_true_eq,Bool.not_eq_true',decide_eq_false_iff_not]
  omega
 simp[h]
theorem V0 (l:List aD):Bv l=some (decide (iC l)):=by
 unfold Bv
 by_cases h1:l.length < 1
 ·have:¬ iC l:=fun h=>by have:=h.1.1;omega
  rw[ai (decide_eq_true (by omega)),af,ai rfl];simp[this]
 rw[ak (decide_eq_false (by omega)),af]
 by_cases h2:4000 < l.length
 ·have:¬ iC l:=fun h=>by have:=h.1.2;omega
  rw[ai (decide_eq_true (by omega))];simp[this]
 rw[ak (decide_eq_false (by omega)),E7 l.length (o9 (fun b=> !decide (l4 b)) (fun x y=>decide (x.id=y.id)) l) false (fun k hk=>by
  have hx:l[k]?=some l[k]:=List.getElem?_eq_getElem hk
  generalize l[k]=x at hx
  rw[ai (by simpa using hk)]
  simp only[aW hx,af,tP,afS,agP]
  unfold o9
  rw[hx]
  dsimp only
  by_cases hb:l4 x
  ·rw[ak (by simp[hb]),xY (l:=l.take k) (fun y=>decide (y.id=x.id)) (.inr (.inr false)) (fun j y hy=>by
    obtain⟨hj,hy⟩:=yQ hy
    rw[ai (by simpa using hj),aX (aW hy)]
    by_cases he:y.id=x.id
    ·rw[ai (by simp[he])];simp[he]
    ·rw[ak (by simp[he]),aJ (by omega)];simp[he]) (by
    rw[List.length_take,Nat.min_eq_left (by omega),ak (by simp)])]
   by_cases ha:((l.take k).any fun y=>decide (y.id=x.id))=true
   ·rw[if_pos ha,if_pos (by rw[ha];simp)];rfl
   rw[if_neg ha,if_neg (by simp[hb] at ha ⊢;exact ha),fQ,aJ (by omega)];rfl
  rw[ai (by simp[hb]),if_pos (by simp[hb])];rfl) (by rw[ak (by simp)])]
 have key:=Nf (fun b=> !decide (l4 b)) (fun x y=>decide (x.id=y.id)) l
 rw[yx aD.id] at key
 by_cases hc:iC l
 ·rw[if_neg]
  ·simp[hc,fQ]
  rw[key];exact fun h=>h ⟨fun b hb=>by simp[hc.2.1 b hb],hc.2.2⟩
 rw[if_pos]
 ·simp[hc,iK]
 rw[key];exact fun h=>hc ⟨by omega,fun b hb=>by simpa using h.1 b hb,h.2⟩
theorem afa (q:Rat):Bl q=some (decide (cF q)):=by
 unfold Bl
 rw[GP,af]
 by_cases h1:my q
 ·have hd:(!(ay q.d 0))=true:=by have:=h1.1;simp;omega
  rw[ai (by simp[h1])]
  by_cases h2:0≤q.n
  ·rw[ai (by simp[h2]),cq hd,af];unfold cF;simp[h1,h2]
  rw[ak (by simp[h2]),af];unfold cF;simp[h2]
 rw[ak (by simp[h1]),af];unfold cF;simp[h1]
theorem afe {a b:Rat} (ha:my a) (hb:my b):Bm (a,b)=some (decide (a.n*b.d < b.n*a.d)):=by
 unfold Bm
 dsimp only
 rw[ahq ha hb,af]
 dsimp only
 congr 1
 rw[decide_eq_decide]
 unfold kI
 split
 ·simp[*]
 split<;>simp[*]
theorem aiR {q:Rat} (h:cF q):24*q.d < q.n*1↔40320 < ew q:=by
 obtain⟨h1,h2,h3⟩:=Xu h
 unfold ew
 generalize Int.tdiv 1680 q.d=k at *
 have e:40320=(24*q.d)*k:=by rw[Int.mul_assoc,h1];rfl
 rw[e,Int.mul_one]
 constructor
 ·exact fun h=>Int.mul_lt_mul_of_pos_right h h3
 exact fun h=>Int.lt_of_mul_lt_mul_right h (by omega)
theorem aiQ {q:Rat} (h:cF q):q.n=0↔ew q < 1:=by
 obtain⟨h1,h2,h3⟩:=Xu h
 unfold ew
 generalize Int.tdiv 1680 q.d=k at *
 have h4:=h.2.1
 constructor
 ·intro h;rw[h];omega
 intro h5
 refine Classical.byContradiction fun hn=>?_
 have:1*k≤q.n*k:=Int.mul_le_mul_of_nonneg_right (by omega) (by omega)
 omega
theorem ae6 (g:Bool) (b:aD):(decide (b.id < 1)||decide (1000000 < b.id)||g||decide (b.key < -7)||decide (7 < b.key)) = !decide ((1≤b.id∧b.id≤1000000)∧g=false∧(-7≤b.key∧b.key≤7)):=by
 rw[Bool.eq_iff_iff]
 cases g
 ·simp only[Bool.or_eq_true,decide_eq_true_eq,Bool.not_eq_true',decide_eq_false_iff_not,true_and]
  simp;omega
 simp
theorem ae7 (b:aD):(aa (Bl b.length) fun v4=>ab (!v4) (some true) (ab (ay b.length.n 0) (some true) (aa (Bm ((⟨24,1⟩:Rat),b.length)) fun v5=>some v5)))=some (!decide (cF b.length∧(1≤ew b.length∧ew b.length≤40320))):=by
 rw[afa,af]
 by_cases h:cF b.length
 ·rw[ak (by simp[h])]
  have h0:=aiQ h
  have h24:=aiR h
  by_cases h1:b.length.n=0
  ·have:=h0.1 h1
   rw[ai (by simp[h1])]
   rw[decide_eq_false (fun hx=>by omega)];rfl
  rw[ak (by simp[h1]),afe (by decide) h.1,af]
  have h3:¬ ew b.length < 1:=fun h=>h1 (h0.2 h)
  congr 1
  simp only[h,true_and]
  rw[←decide_not,decide_eq_decide]
  rw[h24];omega
 rw[ai (by simp[h])];simp[h]
theorem UG {l:List aD} (hl:l.length≤1048576):Bk l=some (decide (iC l)):=by
 unfold Bk
 rw[fg (σ:=List (Int×Bool)) (st:=fun z k=>(k,z)) (l:=l) (fun z x=>if !decide (l4 x)||bB z x.id false then .inr (.inr false) else .inl (bz z x.id true)) (fun _=> .inl ()) (fun _ _=>True) (fun k x z hx _=>by
  have hk:=bU hx
  dsimp only
  rw[ai (by simpa using hk),aX (aW hx),afR,ae6,af]
  by_cases h1:(1≤x.id∧x.id≤1000000)∧bB z x.id false=false∧(-7≤x.key∧x.key≤7)
  ·rw[ak (by simp only[decide_eq_true h1];rfl),ae7,af]
   by_cases h2:cF x.length∧(1≤ew x.length∧ew x.length≤40320)
   ·have hb:l4 x:=⟨h1.1,h2.1,h2.2,h1.2.2⟩
    rw[ak (by simp only[decide_eq_true h2];rfl)]
    rw[aJ (by omega)]
    simp[hb,h1.2.1]
   have hb:¬ l4 x:=fun h=>h2 ⟨h.2.1,h.2.2.1⟩
   rw[ai (by simp only[decide_eq_false h2];rfl)]
   simp[hb]
  rw[ai (by simp only[decide_eq_false h1];rfl),if_pos]
  by_cases hb:l4 x
  ·cases hg:bB z x.id false
   ·exact absurd ⟨hb.1,hg,hb.2.2.2⟩ h1
   simp
  simp[hb]) (fun _ _ _ _ _ _ _=>trivial) (fun z _=>by dsimp only;rw[ak (by simp)]) [] trivial,Jg]
 by_cases hc:(∀ x∈l,(!decide (l4 x))=false)∧(l.map aD.id).Nodup∧∀ x∈l,bB ([]:List (Int×Bool)) x.id false=false
 ·have h1:∀ b∈l,l4 b:=fun b hb=>by simpa using hc.1 b hb
  rw[if_pos hc,fQ,lT]
  refine congrArg some (decide_eq_decide.2 ⟨?_,?_⟩)
  ·rintro⟨a,b⟩;exact⟨⟨by omega,by omega⟩,h1,hc.2.1⟩
  rintro⟨⟨a,b⟩,_⟩;omega
 rw[if_neg hc,iK]
 congr 1;symm
 exact decide_eq_false fun h=>hc ⟨fun b hb=>by simp[h.2.1 b hb],h.2.2,fun b _=>rfl⟩
def cg (bars:List aD):List (Int×Int):=(bars.foldl (fun(p:List (Int×Int)×Nat) b=>(bz p.1 b.id (p.2:Int),p.2+1)) ([],0)).1
theorem U0 {bars:List aD} (hl:bars.length≤1048576):Bo bars=some (cg bars):=by
 unfold Bo
 have:=fg (σ:=List (Int×Int)×Nat) (st:=fun z k=>(k,z.1)) (step:=fun v1:(Int×(List (Int×Int)))=>ab (aA v1.1 (bars.length:Int)) (aa (av bars v1.1) fun v2=>ar (az (v1.1+1)) <| some (.inl ((v1.1+1),(bz v1.2 v2.id v1.1)))) (some (.inr v1.2))) (l:=bars) (fun z x=> .inl (bz z.1 x.id (z.2:Int),z.2+1)) (fun z=>z.1) (fun k z=>z.2=k) (fun k x z hx hz=>by
  have hk:=bU hx
  dsimp only
  rw[ai (by simpa using hk),aX (aW hx),aJ (by omega),hz];rfl) (fun k x z z' hx hz h=>by
  injection h with h;rw[←h];simp[hz]) (fun z _=>by dsimp only;rw[ak (by simp)]) ([],0) rfl
 rw[this,lC (fun(z:List (Int×Int)×Nat) (x:aD)=>(bz z.1 x.id (z.2:Int),z.2+1)) _ _ (fun _ _ _=>rfl),af]
 rfl
theorem U5:∀ (l:List aD) (z:List (Int×Int)×Nat) (id:Int),fh (l.foldl (fun(p:List (Int×Int)×Nat) b=>(bz p.1 b.id (p.2:Int),p.2+1)) z).1 id=(fh z.1 id||l.any fun b=>decide (b.id=id))
 | [],z,id=>by simp
 | b::l,z,id=>by
  rw[List.foldl_cons,U5 l,Fi]
  simp only[List.any_cons]
  rw[show decide (id=b.id)=decide (b.id=id) from decide_eq_decide.2 eq_comm]
  cases fh z.1 id<;>cases decide (b.id=id)<;>simp
theorem U4:∀ (l:List aD) (z:List (Int×Int)×Nat) (id:Int),(l.map aD.id).Nodup→bB (l.foldl (fun(p:List (Int×Int)×Nat) b=>(bz p.1 b.id (p.2:Int),p.2+1)) z).1 id 0=match l.findIdx? fun b=>decide (b.id=id) with | some i=>((z.2+i:Nat):Int) | none=>bB z.1 id 0
 | [],z,id,_=>by simp
 | b::l,z,id,hn=>by
  simp only[List.map_cons,List.nodup_cons,List.mem_map] at hn
  rw[List.foldl_cons,U4 l _ id hn.2,List.findIdx?_cons]
  dsimp only
  by_cases h:b.id=id
  ·have:(l.findIdx? fun b=>decide (b.id=id))=none:=by
    rw[List.findIdx?_eq_none_iff]
    intro x hx
    simp only[decide_eq_false_iff_not]
    exact fun e=>hn.1 ⟨x,hx,by rw[e,h]⟩
   rw[this]
   simp[h,x6]
  simp only[h,decide_false]
  cases hf:l.findIdx? fun b=>decide (b.id=id) with
  | none=>simp[x6,Ne.symm h]
  | some i=>
   simp only[Option.map_some,Bool.false_eq_true,if_false]
   exact congrArg Int.ofNat (by omega:z.2+1+i=z.2+(i+1))
theorem afn (l:List aD) (id:Int):fh (cg l) id=l.any fun b=>decide (b.id=id):=by
 unfold cg;rw[U5];rfl
theorem L8 {l:List aD} (hn:(l.map aD.id).Nodup) {id:Int} (h:(l.any fun b=>decide (b.id=id))=true):bB (cg l) id 0=ix l fun b=>decide (b.id=id):=by
 unfold cg
 rw[U4 l _ id hn]
 unfold ix
 cases hf:l.findIdx? fun b=>decide (b.id=id) with
 | none=>
  have:(l.findIdx? fun b=>decide (b.id=id)).isSome=l.any _:=List.findIdx?_isSome
  rw[hf,h] at this;cases this
 | some i=>simp
theorem xK {α:Type} (l:List α) (p:α→Bool):cw (some (match l.findIdx? p with | some i=>(.inr (i:Int):Unit⊕Int) | none=> .inl ())) (fun _=>some (-1))=some (ix l p):=by
 unfold ix
 cases l.findIdx? p<;>rfl
theorem V1 {bars:List aD} (hl:bars.length≤1048576) (id:Int):Bw (bars,id)=some (ix bars fun b=>decide (b.id=id)):=by
 unfold Bw
 dsimp only
 rw[vG (l:=bars) (fun b=>decide (b.id=id)) (fun k x hx=>by
  have hk:=bU hx
  rw[ai (by simpa using hk),aX (aW hx)]
  by_cases h:x.id=id
  ·rw[ai (by simp[h])];simp[h]
  rw[ak (by simp[h]),aJ (by omega)];simp[h]) (by rw[ak (by simp)])]
 exact xK bars _
end Go.Proofs.YtfhkmedbfiphbaaGreatDoor
namespace Go.Proofs.YtfhkmedbfiphbaaGreatDoor
open Go Go.aj Go.Sy
attribute [local instance] cD dh
def fits (b:aD) (n:ag):Prop:=cF n.start∧cF n.length∧0 < ew n.length∧ew n.start+ew n.length≤ew b.length∧(1≤n.id∧n.id≤1000000)∧(1≤n.part∧n.part≤1000000)∧(0≤n.bm∧n.bm≤9)∧(0≤n.bH∧n.bH≤20)∧kx n.aM
instance (b:aD) (n:ag):Decidable (fits b n):=inferInstanceAs (Decidable (_∧_∧_∧_∧_∧_∧_∧_∧_))
def Ja (n:ag):Option aD→Prop
 | some b=>fits b n
 | none=>False
instance (n:ag):(o:Option aD)→Decidable (Ja n o)
 | some b=>inferInstanceAs (Decidable (fits b n))
 | none=>inferInstanceAs (Decidable False)
def gn (bars:List aD) (n:ag):Prop:=Ja n (bars.find? fun b=>decide (b.id=n.aZ))
instance (bars:List aD) (n:ag):Decidable (gn bars n):=inferInstanceAs (Decidable (Ja n _))
theorem U9 {bars:List aD} {n:ag} (h:(bars.find? fun b=>decide (b.id=n.aZ))=none):¬ gn bars n:=by unfold gn;rw[h];exact fun h=>h
theorem Fv {bars:List aD} {n:ag} {b:aD} (h:(bars.find? fun b=>decide (b.id=n.aZ))=some b):gn bars n↔fits b n:=by unfold gn;rw[h];exact Iff.rfl
def eG (bars:List aD) (l:List ag):Prop:=iC bars∧l.length≤20000∧(∀ n∈l,gn bars n)∧(l.map ag.id).Nodup
instance (bars:List aD) (l:List ag):Decidable (eG bars l):=inferInstanceAs (Decidable (_∧_∧_∧_))
theorem afk {b:aD} (hb:cF b.length) (n:ag):FU (b,n)=some (decide (fits b n)):=by
 unfold FU
 dsimp only
 rw[A9,af,A9,af,A9,af,if_pos hb]
 by_cases h1:cF n.start
 ·rw[if_pos h1]
  by_cases h2:cF n.length
  ·rw[if_pos h2]
   dsimp only
   have t1:=mE h1
   have t2:=mE h2
   rw[aJ (by omega)]
   simp only[afl,Md,afm,af,j3]
   refine mC ?_
   unfold fits
   simp[h1,h2,and_assoc]
  rw[if_neg h2]
  dsimp only
  unfold fits
  rw[ai rfl,ak rfl,af];simp[h2]
 rw[if_neg h1]
 dsimp only
 unfold fits
 rw[ak rfl,af];simp[h1]
theorem agR {bars:List aD} (hb:iC bars) (n:ag):F4 (bars,n)=some (decide (gn bars n)):=by
 have hl:=hb.1.2
 unfold F4
 dsimp only
 rw[V1 (by omega),af,VX,af]
 simp only[agU,af,vu]
 rcases mq bars fun b=>decide (b.id=n.aZ) with ⟨h1,h2⟩ | ⟨k,b,h1,h2,h3,h4⟩
 ·rw[h2,ai (by simp),decide_eq_false (U9 h1)]
 have qU:=(hb.2.1 b (List.mem_of_getElem? h1)).2.1
 rw[h3,decide_eq_decide.2 (Fv h2)]
 by_cases hc:kx n.aM∧(1≤n.id∧n.id≤1000000)∧(1≤n.part∧n.part≤1000000)∧(0≤n.bm∧n.bm≤9)∧(0≤n.bH∧n.bH≤20)
 ·obtain⟨c1,c2,c3,c4,c5⟩:=hc
  rw[ak (by simp[c1,c2,c3,c4,c5]),tP,tP,af,af]
  unfold fits
  by_cases d1:cF n.start
  ·by_cases d2:cF n.length
   ·have t1:=mE d1
    have t2:=mE d2
    rw[if_pos d1,if_pos d2,aJ (by omega),aX (aW h1),tP,if_pos qU,af]
    simp only[j3,af]
    refine mC ?_
    simp[d1,d2,c1,c2,c3,c4,c5,t1]
   rw[if_neg d2]
   simp only[d1,d2,if_true]
   rw[ai (by simp;exact aiS d1),ak (by simp),af]
   simp
  rw[if_neg d1,ak (by simp),af]
  simp[d1]
 rw[ai (by
  rw[show aA (k:Int) 0=false from decide_eq_false (by omega),Bool.false_or]
  refine Classical.byContradiction fun hf=>hc ?_
  simp only[Bool.not_eq_true,Bool.or_eq_false_iff,Bool.not_eq_false',decide_eq_true_eq] at hf
  exact⟨hf.1,hf.2.1,hf.2.2.1,hf.2.2.2.1,hf.2.2.2.2⟩)]
 congr 1;symm
 exact decide_eq_false fun h=>hc ⟨h.2.2.2.2.2.2.2.2,h.2.2.2.2.1,h.2.2.2.2.2.1,h.2.2.2.2.2.2.1,h.2.2.2.2.2.2.2.1⟩
theorem Fm {bars:List aD} (hl:bars.length≤1048576) (l:List ag):wa (bars,l)=some (decide (eG bars l)):=by
 unfold wa
 dsimp only
 rw[UG hl,af]
 by_cases hb:iC bars
 ·rw[ak (by simp[hb]),af]
  by_cases h1:20000 < l.length
  ·have:¬ eG bars l:=fun h=>by have:=h.2.1;omega
   rw[ai (decide_eq_true (by omega))];simp[this]
  rw[ak (decide_eq_false (by omega)),U0 hl,af]
  rw[fg (σ:=List (Int×Bool)) (st:=fun z k=>(k,z)) (l:=l) (fun z x=>if !decide (gn bars x)||bB z x.id false then .inr (.inr false) else .inl (bz z x.id true)) (fun _=> .inl ()) (fun _ _=>True) (fun k x z hx _=>by
   have hk:=bU hx
   dsimp only
   rw[ai (by simpa using hk),aX (aW hx),afn]
   have zS:=zC bars fun b=>decide (b.id=x.aZ)
   rcases mq bars fun b=>decide (b.id=x.aZ) with ⟨h1,h2⟩ | ⟨j,b,h1,h2,h3,h4⟩
   ·rw[h1] at zS
    rw[zS,ai (by simp),af,ai rfl,decide_eq_false (U9 h1)]
    rfl
   rw[decide_eq_decide.2 (Fv h2)]
   rw[h2] at zS
   have qU:=(hb.2.1 b (List.mem_of_getElem? h1)).2.1
   rw[zS,ak (by simp),L8 hb.2.2 (by rw[zS];rfl),h3,aX (aW h1),afk qU,af]
   rw[vu,af,Bool.or_comm]
   by_cases hc:(!decide (fits b x)||bB z x.id false)=true
   ·rw[ai hc,if_pos hc]
   rw[ak (by simpa using hc),if_neg hc]
   rw[aJ (by omega)];rfl) (fun _ _ _ _ _ _ _=>trivial) (fun z _=>by dsimp only;rw[ak (by simp)]) [] trivial,Jg]
  by_cases hc:(∀ x∈l,(!decide (gn bars x))=false)∧(l.map ag.id).Nodup∧∀ x∈l,bB ([]:List (Int×Bool)) x.id false=false
  ·rw[if_pos hc]
   have:eG bars l:=⟨hb,by omega,fun n hn=>by simpa using hc.1 n hn,hc.2.1⟩
   simp[this,fQ]
  rw[if_neg hc]
  have:¬ eG bars l:=fun h=>hc ⟨fun n hn=>by simp[h.2.2.1 n hn],h.2.2.2,fun n _=>rfl⟩
  simp[this,iK]
 have:¬ eG bars l:=fun h=>hb h.1
 rw[ai (by simp[hb]),af,ai rfl];simp[this]
theorem V3 (bars:List aD) (l:List ag):Bz (bars,l)=some (decide (eG bars l)):=by
 unfold Bz
 dsimp only
 rw[V0,af]
 by_cases hb:iC bars
 ·rw[ak (by simp[hb]),af]
  by_cases h1:20000 < l.length
  ·have:¬ eG bars l:=fun h=>by have:=h.2.1;omega
   rw[ai (decide_eq_true (by omega))];simp[this]
  rw[ak (decide_eq_false (by omega)),E7 l.length (o9 (fun n=> !decide (gn bars n)) (fun x y=>decide (x.id=y.id)) l) false (fun k hk=>by
   have hx:l[k]?=some l[k]:=List.getElem?_eq_getElem hk
   generalize l[k]=x at hx
   rw[ai (by simpa using hk),aX (aW hx),agR hb,af]
   unfold o9
   rw[hx]
   dsimp only
   by_cases hn:gn bars x
   ·rw[ak (by simp[hn]),xY (l:=l.take k) (fun y=>decide (y.id=x.id)) (.inr (.inr false)) (fun j y hy=>by
     obtain⟨hj,hy⟩:=yQ hy
     rw[ai (by simpa using hj),aX (aW hy),aX (aW hx)]
     by_cases he:y.id=x.id
     ·rw[ai (by simp[he])];simp[he]
     ·rw[ak (by simp[he]),aJ (by omega)];simp[he]) (by
     rw[List.length_take,Nat.min_eq_left (by omega),ak (by simp)])]
    by_cases ha:((l.take k).any fun y=>decide (y.id=x.id))=true
    ·rw[if_pos ha,if_pos (by rw[ha];simp)];rfl
    rw[if_neg ha,if_neg (by simp[hn] at ha ⊢;exact ha),fQ,aJ (by omega)];rfl
   rw[ai (by simp[hn]),if_pos (by simp[hn])];rfl) (by rw[ak (by simp)])]
  have key:=Nf (fun n=> !decide (gn bars n)) (fun x y=>decide (x.id=y.id)) l
  rw[yx ag.id] at key
  by_cases hc:eG bars l
  ·rw[if_neg]
   ·simp[hc,fQ]
   rw[key];exact fun h=>h ⟨fun n hn=>by simp[hc.2.2.1 n hn],hc.2.2.2⟩
  rw[if_pos]
  ·simp[hc,iK]
  rw[key];exact fun h=>hc ⟨hb,by omega,fun n hn=>by simpa using h.1 n hn,h.2⟩
 have:¬ eG bars l:=fun h=>hb h.1
 rw[ai (by simp[hb]),af,ai rfl];simp[this]
theorem n3 {bars:List aD} {n:ag} (h:gn bars n):∃ (k:Nat) (b:aD),bars[k]?=some b∧b.id=n.aZ∧fits b n∧ix bars (fun b=>decide (b.id=n.aZ))=(k:Int):=by
 unfold gn at h
 rcases mq bars fun b=>decide (b.id=n.aZ) with ⟨h1,h2⟩ | ⟨k,b,h1,h2,h3,h4⟩
 ·rw[h1] at h;exact h.elim
 rw[h2] at h;exact⟨k,b,h1,by simpa using h4,h,h3⟩
theorem Fw {bars:List aD} (hb:iC bars) {n:ag} (h:gn bars n):bB (cg bars) n.aZ 0=ix bars (fun b=>decide (b.id=n.aZ))∧0≤bB (cg bars) n.aZ 0∧bB (cg bars) n.aZ 0≤4000:=by
 obtain⟨k,b,h1,h2,h3,h4⟩:=n3 h
 have e:bB (cg bars) n.aZ 0=ix bars (fun b=>decide (b.id=n.aZ)):=L8 hb.2.2 (by rw[List.any_eq_true];exact⟨b,List.mem_of_getElem? h1,by simp[h2]⟩)
 have hk:=bU h1
 have:=hb.1.2
 exact⟨e,by rw[e,h4];omega,by rw[e,h4];omega⟩
theorem afs {bars:List aD} (hb:iC bars) {n:ag} (h:gn bars n):rJ (cg bars) n:=by
 obtain⟨k,b,h1,h2,h3,h4⟩:=n3 h
 obtain⟨e,i1,i2⟩:=Fw hb h
 unfold fits kx at h3
 unfold rJ
 refine⟨by omega,by omega,h3.1,by omega,h3.2.2.2.2.2.2.2.2.1,by omega⟩
theorem V4 {bars:List aD} (hb:iC bars) {n:ag} (h:gn bars n):BA (bars,n)=some (nK (cg bars) n):=by
 obtain⟨k,b,h1,h2,h3,h4⟩:=n3 h
 obtain⟨e,i1,i2⟩:=Fw hb h
 have:=hb.1.2
 unfold BA
 dsimp only
 rw[V1 (by omega),af,tP,if_pos h3.1,af,mw h3.2.2.2.2.2.2.2.2.1,af]
 unfold nK
 rw[e]
def Bc (z:Int):Unit⊕Bool:=if z=0 then .inl () else .inr (decide (z < 0))
theorem Ov {x y:List Int} (hl:x.length=y.length) (hs:x.length≤1000):aU (fun v5:Int=>ab (aA v5 (x.length:Int)) (aa (av x v5) fun v6=>aa (av y v5) fun v7=>ab (!(ay v6 v7)) (aa (av x v5) fun v8=>aa (av y v5) fun v9=>some (.inr (.inr (aA v8 v9)))) (ar (az (v5+1)) <| some (.inl (v5+1)))) (some (.inr (.inl ())))) 0=some (Bc (eD (x.zipWith (· - ·) y))):=by
 have key:∀ (n k:Nat),k+n=x.length→aU (fun v5:Int=>ab (aA v5 (x.length:Int)) (aa (av x v5) fun v6=>aa (av y v5) fun v7=>ab (!(ay v6 v7)) (aa (av x v5) fun v8=>aa (av y v5) fun v9=>some (.inr (.inr (aA v8 v9)))) (ar (az (v5+1)) <| some (.inl (v5+1)))) (some (.inr (.inl ())))) (k:Int)=some (Bc (eD ((x.drop k).zipWith (· - ·) (y.drop k)))):=by
  intro n
  induction n with
  | zero=>
   intro k hk
   rw[List.drop_eq_nil_of_le (by omega)]
   refine kv ?_
   rw[ak (by simp;omega)];rfl
  | succ n ih=>
   intro k hk
   have h1:k < x.length:=by omega
   have h2:k < y.length:=by omega
   have hx:x[k]?=some x[k]:=List.getElem?_eq_getElem h1
   have hy:y[k]?=some y[k]:=List.getElem?_eq_getElem h2
   rw[List.drop_eq_getElem_cons h1,List.drop_eq_getElem_cons h2]
   simp only[List.zipWith_cons_cons,eD]
   generalize x[k]=u at *
   generalize y[k]=v at *
   by_cases he:u=v
   ·rw[oQ (z':=((k+1:Nat):Int)) (by
     rw[ai (by simpa using h1),aX (aW hx),aX (aW hy),ak (by simp[he]),aJ (by omega)];rfl),if_pos (by omega)]
    exact ih (k+1) (by omega)
   refine kv ?_
   rw[ai (by simpa using h1),aX (aW hx),aX (aW hy),ai (by simp[he]),aX (aW hx),aX (aW hy),if_neg (by omega)]
   unfold Bc
   rw[if_neg (by omega)]
   congr 3
   rw[decide_eq_decide];omega
 have:=key x.length 0 (by omega)
 simpa using this
theorem V2 {bars:List aD} (hb:iC bars) {a b:ag} (h1:gn bars a) (h2:gn bars b):By (bars,a,b)=some (decide (bM (nK (cg bars)) a b < 0)):=by
 unfold By
 dsimp only
 rw[V4 hb h1,V4 hb h2,af,af,Ov (x:=nK (cg bars) a) (y:=nK (cg bars) b) rfl (by rw[A8];omega)]
 unfold Bc bM
 by_cases h:eD ((nK (cg bars) a).zipWith (· - ·) (nK (cg bars) b))=0
 ·rw[if_pos h,h];rfl
 rw[if_neg h];rfl
theorem Mb {at_:List (Int×Int)} {l:List ag} (hn:(l.map ag.id).Nodup):pk (bM (nK at_)) l:=by
 intro a ha b hb h1 h2
 have h:=Qs (A8 at_) h1 h2
 unfold nK at h
 simp only[List.cons.injEq] at h
 exact sY hn ha hb h.2.2.2.2.2.1
end Go.Proofs.YtfhkmedbfiphbaaGreatDoor
namespace Go.Proofs.YtfhkmedbfiphbaaGreatDoor
open Go Go.aj Go.Sy
attribute [local instance] cD dh
noncomputable def fZ (at_:List (Int×Int)) (xs:List ag):List ag:=qo (bM (nK at_)) xs
theorem Df (at_:List (Int×Int)):Go.Sort.SWO (Go.Proofs.ltOf (bM (nK at_))):=Nt (A8 at_)
theorem Ix {at_:List (Int×Int)} {a b:ag} (h:bM (nK at_) a b < 0):¬ bM (nK at_) b a < 0:=by
 have:=Dy (nK at_ a) (nK at_ b) rfl
 unfold bM at *
 rw[this];omega
theorem Zd (at_:List (Int×Int)) (a b c:ag) (h1:¬ bM (nK at_) b a < 0) (h2:¬ bM (nK at_) c b < 0):¬ bM (nK at_) c a < 0:=
 Dz (nK at_ c) (nK at_ b) (nK at_ a) rfl rfl h2 h1
theorem Ze (at_:List (Int×Int)) (a b c:ag) (h1:bM (nK at_) a b < 0) (h2:bM (nK at_) b c < 0):bM (nK at_) a c < 0:=
 Jf (nK at_ a) (nK at_ b) (nK at_ c) rfl rfl h1 h2
def ir (at_:List (Int×Int)) (z:List ag) (x:ag):List ag:=AI (fun y=>decide (bM (nK at_) x y < 0)) z x
theorem acz {at_:List (Int×Int)} {z:List ag} (h:z.Pairwise fun a b=>¬ bM (nK at_) b a < 0) (x:ag):(ir at_ z x).Pairwise fun a b=>¬ bM (nK at_) b a < 0:=by
 unfold ir
 refine acy (R:=fun a b=>¬ bM (nK at_) b a < 0) (Zd at_) h (fun y _ hp=>?_) fun y _ hp=>?_
 ·exact Ix (of_decide_eq_true hp)
 exact of_decide_eq_false hp
theorem Rq {at_:List (Int×Int)}:∀ (l z:List ag),(z.Pairwise fun a b=>¬ bM (nK at_) b a < 0)→((l.foldl (ir at_) z).Pairwise fun a b=>¬ bM (nK at_) b a < 0)∧(l.foldl (ir at_) z).Perm (l++z)
 | [],z,h=>⟨h,List.Perm.refl _⟩
 | x::l,z,h=>by
  obtain⟨h1,h2⟩:=Rq l (ir at_ z x) (acz h x)
  refine⟨h1,h2.trans ?_⟩
  refine((Ti _ z x).append_left l).trans ?_
  exact List.perm_middle
theorem wA {at_:List (Int×Int)} {l m:List ag} (hm:m.Pairwise fun a b=>¬ bM (nK at_) b a < 0) (hp:m.Perm l) (hn:(l.map ag.id).Nodup):m=fZ at_ l:=
 Xd hm (yL (Df at_) l) (hp.trans (G9 _ l).symm) ((Mb hn).perm hp.symm)
theorem agV {bars:List aD} (hb:iC bars) {z:List ag} {x:ag} (hz:∀ y∈z,gn bars y) (hx:gn bars x) (hl:z.length≤100000):F6 (bars,z,x)=some (ir (cg bars) z x):=by
 unfold F6
 dsimp only
 rw[aeN (l:=z) (fun y=>decide (bM (nK (cg bars)) x y < 0)) (fun k y hy=>by
  have hk:=bU hy
  rw[ai (decide_eq_true (by omega)),aJ (by omega),show(k:Int)+1 - 1=(k:Int) by omega,aX (aW hy),V2 hb hx (hz y (List.mem_of_getElem? hy)),af,af]
  by_cases h:bM (nK (cg bars)) x y < 0
  ·rw[ai (by simp[h]),aJ (by omega)];simp[h]
  rw[ak (by simp[h])];simp[h]) (by rw[ak (by simp),af,ak rfl]),af]
 have hle:=YC (fun y=>decide (bM (nK (cg bars)) x y < 0)) z
 rw[cq (by simp;omega),cq (decide_eq_true (by rw[List.length_take];omega)),cq (decide_eq_true (by simp;omega)),cq (by simp;omega),cq (decide_eq_true (by simp;omega))]
 simp only[Int.toNat_natCast]
 rfl
theorem agT {bars:List aD} (hb:iC bars) {l:List ag} (hn:∀ n∈l,gn bars n) (hl:l.length≤100000) (an:(l.map ag.id).Nodup):F5 (bars,l)=some (fZ (cg bars) l):=by
 unfold F5
 dsimp only
 rw[fg (σ:=List ag) (st:=fun z k=>(z,k)) (l:=l) (fun z x=> .inl (ir (cg bars) z x)) (fun z=>z) (fun k z=>(∀ y∈z,gn bars y)∧z.length=k) (fun k x z hx hz=>by
  have hk:=bU hx
  dsimp only
  rw[ai (by simpa using hk),aX (aW hx),agV hb hz.1 (hn x (List.mem_of_getElem? hx)) (by omega),af,aJ (by omega)];rfl) (fun k x z z' hx hz h=>by
  injection h with h;subst h
  have hp:=Ti (fun y=>decide (bM (nK (cg bars)) x y < 0)) z x
  refine⟨fun y hy=>?_,?_⟩
  ·rcases List.mem_cons.1 (hp.subset hy) with rfl | hy
   ·exact hn y (List.mem_of_getElem? hx)
   exact hz.1 y hy
  rw[show(ir (cg bars) z x).length=z.length+1 from hp.length_eq,hz.2]) (fun z _=>by dsimp only;rw[ak (by simp)]) [] ⟨by simp,rfl⟩,lC (ir (cg bars)) _ _ (fun _ _ _=>rfl),af]
 obtain⟨h1,h2⟩:=Rq (at_:=cg bars) l [] List.Pairwise.nil
 rw[wA h1 (by simpa using h2) an]
def uK (at_:List (Int×Int)) (l:List ag) (k:Nat):Bool:=match l[k]?,l[k+1]? with
 | some a,some b=> !decide (bM (nK at_) a b < 0)
 | _,_=>false
theorem RB {at_:List (Int×Int)} {l:List ag} (an:(l.map ag.id).Nodup):(List.range (l.length - 1)).any (uK at_ l)=true↔¬ fZ at_ l=l:=by
 constructor
 ·intro h hs
  obtain⟨k,hk,hg⟩:=List.any_eq_true.1 h
  have hk:=List.mem_range.1 hk
  have h1:l[k]?=some l[k]:=List.getElem?_eq_getElem (by omega)
  have h2:l[k+1]?=some l[k+1]:=List.getElem?_eq_getElem (by omega)
  unfold uK at hg
  rw[h1,h2] at hg
  simp only[Bool.not_eq_true',decide_eq_false_iff_not] at hg
  have lJ:=yL (Df at_) l
  rw[show qo (bM (nK at_)) l=l from hs] at lJ
  have h3:=(List.pairwise_iff_getElem.1 lJ) k (k+1) (by omega) (by omega) (by omega)
  have h4:=Mb (at_:=at_) an _ (List.getElem_mem (h:=(by omega:k < l.length))) _ (List.getElem_mem (h:=(by omega:k+1 < l.length))) hg h3
  have fN:l.Nodup:=List.Pairwise.of_map ag.id (fun a b dg=>fun e=>dg (by rw[e])) an
  have:=(List.pairwise_iff_getElem.1 fN) k (k+1) (by omega) (by omega) (by omega)
  exact this h4
 intro hs
 refine Classical.byContradiction fun bS=>hs ?_
 symm
 refine wA ?_ (List.Perm.refl _) an
 have:l.Pairwise fun a b=>bM (nK at_) a b < 0:=Iz (Ze at_) fun k a b h1 h2=>by
  refine Classical.byContradiction fun hc=>bS (List.any_eq_true.2 ⟨k,List.mem_range.2 ?_,?_⟩)
  ·have:=bU h2;omega
  unfold uK;rw[h1,h2];simp[hc]
 exact this.imp fun h=>Ix h
theorem aeM {ρ:Type} {step:Int→Option (Int⊕(Unit⊕ρ))} (n:Nat) (p:Nat→Bool) (r:ρ)
  (h:∀ (k:Nat),k < n→step ((k:Int)+1)=some (if p k=true then .inr (.inr r) else .inl ((k:Int)+1+1))) (dM:step ((n:Int)+1)=some (.inr (.inl ()))) :
  aU step 1=some (if(List.range n).any p=true then .inr r else .inl ()):=by
 have:=fg (σ:=Unit) (st:=fun _ k=>k+1) (step:=step) (l:=List.range n) (fun _ x=>if p x=true then .inr (.inr r) else .inl ()) (fun _=> .inl ()) (fun _ _=>True) (fun k x z hx _=>by
  have hk:=bU hx
  rw[List.getElem?_range (by simpa using hk)] at hx
  injection hx with hx;subst hx
  rw[h k (by simpa using hk)];split<;>rename_i hp<;>simp[hp]) (fun _ _ _ _ _ _ _=>trivial) (fun z _=>by rw[List.length_range];exact dM) () trivial
 rw[show(0:Int)+1=1 from rfl] at this
 rw[this]
 congr 1
 clear this h dM
 generalize List.range n=l
 induction l with
 | nil=>rfl
 | cons x l ih=>
  simp only[fu,List.any_cons]
  by_cases hp:p x=true
  ·simp[hp]
  simp only[hp,Bool.false_or]
  simpa using ih
def iQ (i:Interval):Prop:=(-21≤i.steps∧i.steps≤21)∧(-36≤i.bG∧i.bG≤36)∧(-12≤7*i.bG - 12*i.steps∧7*i.bG - 12*i.steps≤12)
instance (i:Interval):Decidable (iQ i):=inferInstanceAs (Decidable (_∧_∧_))
def eM (p:Part):Prop:=(1≤p.id∧p.id≤1000000)∧(0≤p.mA∧p.mA≤99)∧(0≤p.of∧p.of≤1000000)∧(-2≤p.au∧p.au≤2)∧(1≤p.ma∧p.ma≤40)∧iQ p.shift∧bZ p.low∧bZ p.high∧p.of≠p.id∧(p.of=0→p.au=0)∧num p.low≤num p.high
instance (p:Part):Decidable (eM p):=inferInstanceAs (Decidable (_∧_∧_∧_∧_∧_∧_∧_∧_∧_∧_))
def dq (i:Interval):Prop:=(-70≤i.steps∧i.steps≤70)∧(-120≤i.bG∧i.bG≤120)
instance (i:Interval):Decidable (dq i):=inferInstanceAs (Decidable (_∧_))
theorem agO (n lo hi:Int):F1 (n,lo,hi)=some (decide (lo≤n∧n≤hi)):=lT n lo hi
theorem VZ (i:Interval):Bt i=some (if dq i then(7*i.bG - 12*i.steps,0) else(0,1)):=by
 unfold Bt Mv
 simp only[agO,af,j3]
 by_cases h:dq i
 ·have h':=h
  unfold dq at h'
  rw[if_pos h,ak (by simp;omega),aJ (by omega),aJ (by omega),aJ (by omega)]
 have h':=h
 unfold dq at h'
 rw[if_neg h,ai (by simp;omega)]
theorem K8 (i:Interval):yb i=some (if dq i then(7*i.bG - 12*i.steps,0) else(0,1)):=by
 unfold yb Mo rP wc j9
 simp only[FY,af,j3]
 by_cases h:dq i
 ·have h':=h
  unfold dq at h'
  rw[if_pos h,ak (by simp;omega),aJ (by omega),aJ (by omega),af]
  rw[af,ak (by simp),aJ (by omega),aJ (by omega),aJ (by omega)]
 have h':=h
 unfold dq at h'
 rw[if_neg h,ai (by simp;omega),af]
 dsimp only
 rw[af,ai (by simp)]
theorem aiq (i:Interval):wh i=some (decide (iQ i)):=by
 unfold wh
 rw[K8,af]
 by_cases h:dq i
 ·rw[if_pos h]
  dsimp only
  simp only[Cg,af,j3]
  congr 1
  unfold iQ
  rw[Bool.eq_iff_iff]
  simp[and_assoc]
 rw[if_neg h]
 dsimp only
 rw[ak (by simp),af]
 congr 1;symm
 exact decide_eq_false fun hs=>h (by unfold iQ at hs;unfold dq;omega)
theorem ag1 (i:Interval):F9 i=some (decide (iQ i)):=by
 unfold F9
 rw[VZ,af]
 by_cases h:dq i
 ·rw[if_pos h]
  dsimp only
  simp only[yA,af,j3]
  congr 1
  unfold iQ
  rw[Bool.eq_iff_iff]
  simp[and_assoc]
 rw[if_neg h]
 dsimp only
 rw[ak (by simp),af]
 congr 1;symm
 exact decide_eq_false fun hs=>h (by unfold iQ at hs;unfold dq;omega)
def yr (p:Part):Prop:=(1≤p.id∧p.id≤1000000)∧(0≤p.mA∧p.mA≤99)∧(0≤p.of∧p.of≤1000000)∧(-2≤p.au∧p.au≤2)∧(1≤p.ma∧p.ma≤40)
instance (p:Part):Decidable (yr p):=inferInstanceAs (Decidable (_∧_∧_∧_∧_))
def tL (p:Part):Prop:=p.of≠p.id∧(p.of=0→p.au=0)
instance (p:Part):Decidable (tL p):=inferInstanceAs (Decidable (_∧_))
def GA (p:Part):Prop:=bZ p.low∧bZ p.high∧num p.low≤num p.high
instance (p:Part):Decidable (GA p):=inferInstanceAs (Decidable (_∧_∧_))
theorem nk (p:Part):eM p↔yr p∧tL p∧iQ p.shift∧GA p:=by
 unfold eM yr tL GA
 constructor
 ·rintro⟨a1,a2,a3,a4,a5,a6,a7,a8,a9,sj,sm⟩;exact⟨⟨a1,a2,a3,a4,a5⟩,⟨a9,sj⟩,a6,a7,a8,sm⟩
 rintro⟨⟨a1,a2,a3,a4,a5⟩,⟨a9,sj⟩,a6,a7,a8,sm⟩;exact⟨a1,a2,a3,a4,a5,a6,a7,a8,a9,sj,sm⟩
theorem ahT (p:Part):(aa (tJ p.id) fun v1=>ab v1 (aa (k9 (p.mA,(0,99))) fun v2=>ab v2 (aa (k9 (p.of,(0,1000000))) fun v3=>ab v3 (aa (k9 (p.au,((-2),2))) fun v4=>ab v4 (aa (k9 (p.ma,(1,40))) fun v5=>some v5) (some false)) (some false)) (some false)) (some false))=some (decide (yr p)):=by
 simp only[G6,Cg,af,j3]
 refine mC ?_
 unfold yr
 simp only[Bool.and_eq_true,decide_eq_true_eq]
theorem ahU (p:Part) (b:Bool):(ab (!b) (some true) (ab (ay p.of p.id) (some true) (ab (ay p.of 0) (ab (!(ay p.au 0)) (some true) (aa (wh p.shift) fun v2=>some (!v2))) (aa (wh p.shift) fun v2=>some (!v2)))))=some (!(b&&decide (tL p)&&decide (iQ p.shift))):=by
 rw[aiq]
 simp only[af]
 generalize decide (iQ p.shift)=s
 cases b
 ·rfl
 by_cases h1:p.of=p.id
 ·have:¬ tL p:=fun h=>h.1 h1
  rw[decide_eq_false this,ak (c:= !true) rfl,ai (by simp[h1])];rfl
 rw[ak (c:= !true) rfl,ak (decide_eq_false h1)]
 by_cases h2:p.of=0
 ·by_cases h3:p.au=0
  ·have:tL p:=⟨h1,fun _=>h3⟩
   rw[decide_eq_true this,ai (decide_eq_true h2),ak (by simp[h3])];simp
  have:¬ tL p:=fun h=>h3 (h.2 h2)
  rw[decide_eq_false this,ai (decide_eq_true h2),ai (by simp[h3])];simp
 have:tL p:=⟨h1,fun h=>absurd h h2⟩
 rw[decide_eq_true this,ak (decide_eq_false h2)];simp
theorem ahV (p:Part):(aa (ky p.low) fun v3=>ab v3 (aa (ky p.high) fun v4=>ab v4 (aa (qj p.low) fun v5=>aa (qj p.high) fun v6=>some (leI v5 v6)) (some false)) (some false))=some (decide (GA p)):=by
 simp only[oX,af]
 by_cases h1:bZ p.low
 ·rw[ai (decide_eq_true h1)]
  by_cases h2:bZ p.high
  ·rw[ai (decide_eq_true h2),Ca h1,Ca h2,af,af]
   congr 1;rw[decide_eq_decide];exact⟨fun h=>⟨h1,h2,h⟩,fun h=>h.2.2⟩
  rw[ak (decide_eq_false h2)];congr 1;symm;exact decide_eq_false fun h=>h2 h.2.1
 rw[ak (decide_eq_false h1)];congr 1;symm;exact decide_eq_false fun h=>h1 h.1
theorem ahW (p:Part):Gn p=some (decide (eM p)):=by
 unfold Gn
 rw[ahT,af,ahU,af,ahV,af,acj,decide_eq_decide.2 (nk p)]
 refine mC ?_
 simp only[Bool.not_not,Bool.and_eq_true,decide_eq_true_eq,and_assoc]
theorem agW (p:Part):F7 p=some (decide (eM p)):=by
 unfold F7
 simp only[yA,ag1,tO,af,vu]
 by_cases hA:yr p∧iQ p.shift∧bZ p.low∧bZ p.high
 ·have DL:=hA
  obtain⟨⟨a1,a2,a3,a4,a5⟩,a6,a7,a8⟩:=hA
  rw[ak (by simp only[a1,a2,a3,a4,a5,decide_eq_true a6,decide_eq_true a7,decide_eq_true a8,and_self,decide_true];rfl)]
  rw[mw a7,mw a8]
  simp only[af]
  by_cases h1:p.of=p.id
  ·rw[ak (by simp[h1]),af]
   congr 1;symm;exact decide_eq_false fun h=>((nk p).1 h).2.1.1 h1
  rw[ai (by simp[h1])]
  by_cases h2:p.of=0
  ·rw[ak (by simp[h2])]
   by_cases h3:p.au=0
   ·rw[ai (decide_eq_true h3),af]
    congr 1;rw[decide_eq_decide]
    exact⟨fun h=>(nk p).2 ⟨DL.1,⟨h1,fun _=>h3⟩,a6,a7,a8,h⟩,fun h=>((nk p).1 h).2.2.2.2.2⟩
   rw[ak (decide_eq_false h3),af]
   congr 1;symm;exact decide_eq_false fun h=>h3 (((nk p).1 h).2.1.2 h2)
  rw[ai (by simp[h2]),af]
  congr 1;rw[decide_eq_decide]
  exact⟨fun h=>(nk p).2 ⟨DL.1,⟨h1,fun h=>absurd h h2⟩,a6,a7,a8,h⟩,fun h=>((nk p).1 h).2.2.2.2.2⟩
 rw[ai (by
  refine Classical.byContradiction fun hf=>hA ?_
  simp only[Bool.not_eq_true,Bool.or_eq_false_iff,Bool.not_eq_false'] at hf
  obtain⟨b1,b2,b3,b4,b5,b6,b7,b8⟩:=hf
  exact⟨⟨of_decide_eq_true b1,of_decide_eq_true b2,of_decide_eq_true b3,of_decide_eq_true b4,of_decide_eq_true b5⟩,of_decide_eq_true b6,of_decide_eq_true b7,of_decide_eq_true b8⟩)]
 congr 1;symm;exact decide_eq_false fun h=>hA (by
  obtain⟨a1,_,a3,a4⟩:=(nk p).1 h
  exact⟨a1,a3,a4.1,a4.2.1⟩)
end Go.Proofs.YtfhkmedbfiphbaaGreatDoor
namespace Go.Proofs.YtfhkmedbfiphbaaGreatDoor
open Go Go.aj Go.Sy
attribute [local instance] cD dh
def qa (l:List Part) (p:Part):Bool:= !decide (p.of=0) && !(l.any fun q=>decide (q.id=p.of)&&decide (q.of=0))
def np (l:List Part):Prop:=(1≤l.length∧l.length≤60)∧(∀ p∈l,eM p)∧(l.map Part.id).Nodup∧(l.any (qa l))=false
instance (l:List Part):Decidable (np l):=inferInstanceAs (Decidable (_∧_∧_∧_))
theorem DD {α:Type} (id:α→Int):∀ (l:List α) (z:List (Int×α)),(∀ k∈nZ z,k∉l.map id)→(l.map id).Nodup→l.foldl (fun m x=>bz m (id x) x) z=z++iE id l
 | [],z,_,_=>by simp[iE]
 | x::l,z,h,hn=>by
  simp only[List.map_cons,List.nodup_cons,List.mem_cons,not_or] at h hn
  have hx:id x∉nZ z:=fun hx=>(h _ hx).1 rfl
  rw[List.foldl_cons,UU x hx,DD id l _ (fun k hk=>?_) hn.2]
  ·simp[iE]
  simp only[nZ,List.map_append,List.mem_append,List.map_cons,List.map_nil,List.mem_singleton] at hk
  rcases hk with hk | rfl
  ·exact(h k hk).2
  exact hn.1
theorem Rs {α:Type} (id:α→Int):∀ (l:List α) (z:List (Int×α)),(l.foldl (fun m x=>bz m (id x) x) z).length≤z.length+l.length∧((l.foldl (fun m x=>bz m (id x) x) z).length=z.length+l.length→(l.map id).Nodup∧∀ k∈nZ z,k∉l.map id)
 | [],z=>by simp
 | x::l,z=>by
  obtain⟨h1,h2⟩:=Rs id l (bz z (id x) x)
  have hp:=L4 (id x) x z
  rw[List.foldl_cons,List.length_cons]
  by_cases hc:fh z (id x)=true
  ·rw[if_pos hc] at hp
   exact⟨by omega,fun h=>by omega⟩
  rw[if_neg hc] at hp
  refine⟨by omega,fun h=>?_⟩
  obtain⟨h3,h4⟩:=h2 (by omega)
  have iG:id x∉nZ z:=fun hk=>hc ((A5 _ _).2 hk)
  simp only[List.map_cons,List.nodup_cons,List.mem_cons,not_or]
  refine⟨⟨h4 (id x) ((US _ _ _ _).2 (.inl rfl)),h3⟩,fun k hk=>⟨fun e=>iG (e▸hk),h4 k ((US _ _ _ _).2 (.inr hk))⟩⟩
theorem CW {α:Type} (id:α→Int) (l:List α) (n:Int):fh (iE id l) n=l.any fun x=>decide (id x=n):=by
 rw[Bool.eq_iff_iff,A5,List.any_eq_true]
 unfold iE nZ
 simp only[List.map_map,List.mem_map,Function.comp,decide_eq_true_eq]
theorem y5 {α:Type} (id:α→Int) (z:α):∀ (l:List α) (n:Int),bB (iE id l) n z=(l.find? fun x=>decide (id x=n)).getD z
 | [],n=>rfl
 | x::l,n=>by
  have ih:=y5 id z l n
  unfold iE at *
  rw[List.map_cons,x5,List.find?_cons]
  by_cases h:id x=n
  ·subst h;simp
  rw[if_neg h,ih,decide_eq_false h]
theorem qQ {α:Type} {id:α→Int} {l:List α} (hn:(l.map id).Nodup) {x:α} (hx:x∈l):(l.find? fun y=>decide (id y=id x))=some x:=by
 cases hf:l.find? fun y=>decide (id y=id x) with
 | none=>
  have:=List.find?_eq_none.1 hf x hx
  simp at this
 | some y=>
  have h1:=List.mem_of_find?_eq_some hf
  have h2:=List.find?_some hf
  rw[sY hn h1 hx (by simpa using h2)]
theorem aeP {l:List Part} (hn:(l.map Part.id).Nodup) (p:Part):Gm (p,iE Part.id l)=some (qa l p):=by
 unfold Gm qa
 dsimp only
 rw[CW,y5]
 by_cases h0:p.of=0
 ·rw[ak (by simp[h0]),af];simp[h0]
 rw[ai (by simp[h0]),decide_eq_false h0]
 cases ha:l.any fun x=>decide (x.id=p.of)
 ·rw[ai (c:= !false) rfl,af]
  have:(l.any fun q=>decide (q.id=p.of)&&decide (q.of=0))=false:=by
   rw[List.any_eq_false] at ha ⊢
   intro x hx
   have:=ha x hx
   simp at this
   simp[this]
  rw[this];rfl
 rw[ak (c:= !true) rfl,af]
 obtain⟨q,hq,he⟩:=List.any_eq_true.1 ha
 have he:q.id=p.of:=by simpa using he
 have hf:=qQ hn hq
 rw[he] at hf
 rw[hf]
 congr 1
 have:(l.any fun q=>decide (q.id=p.of)&&decide (q.of=0))=decide (q.of=0):=by
  rw[Bool.eq_iff_iff,List.any_eq_true]
  constructor
  ·rintro⟨r,hr,h⟩
   simp only[Bool.and_eq_true,decide_eq_true_eq] at h
   rw[sY hn hq hr (by rw[he,h.1])];simpa using h.2
  intro h;exact⟨q,hq,by simp[he];simpa using h⟩
 rw[this];rfl
theorem ZD {l:List Part} (hl:l.length≤1000000) (hn:(l.map Part.id).Nodup):Gu (l,iE Part.id l)=some (l.any (qa l)):=by
 unfold Gu
 dsimp only
 have:Gv (l,iE Part.id l)=some (ix l (qa l)):=by
  unfold Gv
  dsimp only
  rw[vG (l:=l) (qa l) (fun k x hx=>by
   have hk:=bU hx
   rw[ai (by simpa using hk),aX (aW hx),aeP hn,af]
   cases qa l x
   ·rw[ak rfl,aJ (by omega)];simp
   rw[ai rfl];simp) (by rw[ak (by simp)])]
  exact xK l _
 rw[this,af]
 exact congrArg some (Td _ _)
theorem DA {α σ ρ:Type} (ok:α→Bool) (g:σ→α→σ) (r:ρ):∀ (l:List α) (z:σ),fu (fun z x=>if ok x=true then .inl (g z x) else(.inr (.inr r):σ⊕(σ⊕ρ))) (fun z=> .inl z) l z=if l.all ok=true then .inl (l.foldl g z) else .inr r
 | [],z=>rfl
 | x::l,z=>by
  have ih:=DA ok g r l (g z x)
  simp only[fu]
  by_cases h:ok x=true
  ·rw[if_pos h]
   dsimp only
   rw[ih];simp[h]
  rw[if_neg h];simp[h]
theorem ahJ {l:List Part}:Gl l=some (decide (np l)):=by
 unfold Gl
 rw[Cg,af]
 by_cases h1:1≤l.length∧l.length≤60
 ·rw[ak (by rw[decide_eq_true (by omega)];rfl)]
  rw[fg (σ:=List (Int×Part)) (st:=fun z k=>(k,z)) (l:=l) (fun z x=>if decide (eM x)=true then .inl (bz z x.id x) else .inr (.inr false)) (fun z=> .inl z) (fun _ _=>True) (fun k x z hx _=>by
   have hk:=bU hx
   dsimp only
   rw[ai (by simpa using hk),aX (aW hx),ahW,af]
   by_cases h:eM x
   ·rw[ak (by simp[h]),aJ (by omega)];simp[h]
   rw[ai (by simp[h])];simp[h]) (fun _ _ _ _ _ _ _=>trivial) (fun z _=>by dsimp only;rw[ak (by simp)]) [] trivial,DA]
  by_cases h2:(l.all fun x=>decide (eM x))=true
  ·rw[if_pos h2,fQ]
   have Jx:∀ p∈l,eM p:=fun p hp=>by simpa using List.all_eq_true.1 h2 p hp
   obtain⟨e1,e2⟩:=Rs Part.id l []
   by_cases hn:(l.map Part.id).Nodup
   ·rw[DD Part.id l [] (by simp) hn,List.nil_append,ai (by simp[iE]),ZD (by omega) hn,af,af]
    congr 1
    rw[Bool.eq_iff_iff,decide_eq_true_iff]
    simp only[Bool.not_eq_true']
    exact⟨fun h=>⟨h1,Jx,hn,h⟩,fun h=>h.2.2.2⟩
   rw[ak (by
    refine decide_eq_false fun h=>hn (e2 ?_).1
    simp;omega),af]
   congr 1;symm;exact decide_eq_false fun h=>hn h.2.2.1
  rw[if_neg h2,iK]
  congr 1;symm
  exact decide_eq_false fun h=>h2 (List.all_eq_true.2 fun p hp=>by simpa using h.2.1 p hp)
 rw[ai (by rw[decide_eq_false (by omega)];rfl)]
 congr 1;symm;exact decide_eq_false fun h=>h1 h.1
theorem yy {l:List Part} (hl:l.length≤1000000) (id:Int):qi (l,id)=some (ix l fun p=>decide (p.id=id)):=by
 unfold qi
 dsimp only
 rw[vG (l:=l) (fun b=>decide (b.id=id)) (fun k x hx=>by
  have hk:=bU hx
  rw[ai (by simpa using hk),aX (aW hx)]
  by_cases h:x.id=id
  ·rw[ai (by simp[h])];simp[h]
  rw[ak (by simp[h]),aJ (by omega)];simp[h]) (by rw[ak (by simp)])]
 exact xK l _
theorem wm {l:List ag} (hl:l.length≤1000000) (id:Int):jc (l,id)=some (ix l fun p=>decide (p.id=id)):=by
 unfold jc
 dsimp only
 rw[vG (l:=l) (fun b=>decide (b.id=id)) (fun k x hx=>by
  have hk:=bU hx
  rw[ai (by simpa using hk),aX (aW hx)]
  by_cases h:x.id=id
  ·rw[ai (by simp[h])];simp[h]
  rw[ak (by simp[h]),aJ (by omega)];simp[h]) (by rw[ak (by simp)])]
 exact xK l _
theorem K7 {α:Type} (p:α→Bool):∀ (l:List α) (k:Nat) (x:α),l[k]?=some x→p x=true→(ix l p=(k:Int)↔((l.take k).any p)=false)
 | [],k,x,h,_=>by simp at h
 | y::l,0,x,h,hp=>by
  simp at h;subst h
  simp[ix,List.findIdx?_cons,hp]
 | y::l,k+1,x,h,hp=>by
  have ih:=K7 p l k x (by simpa using h) hp
  rw[List.take_succ_cons,List.any_cons]
  unfold ix at ih ⊢
  rw[List.findIdx?_cons]
  cases hy:p y
  ·simp only[Bool.false_or,Bool.false_eq_true,if_false]
   rw[←ih]
   cases l.findIdx? p with
   | none=>simp only[Option.map_none];constructor<;>intro h<;>omega
   | some i=>simp only[Option.map_some];constructor<;>intro h<;>omega
  simp;omega
def xZ (l:List Part) (p:Part):Bool:= !decide (p.of=0)&&(match l.find? fun q=>decide (q.id=p.of) with | some q=> !decide (q.of=0) | none=>true)
theorem UD {l:List Part} (hn:(l.map Part.id).Nodup) (p:Part):xZ l p=qa l p:=by
 unfold xZ qa
 congr 1
 cases hf:l.find? fun q=>decide (q.id=p.of) with
 | none=>
  have:(l.any fun q=>decide (q.id=p.of)&&decide (q.of=0))=false:=by
   rw[List.any_eq_false]
   intro x hx
   have:=List.find?_eq_none.1 hf x hx
   simp at this;simp[this]
  rw[this];rfl
 | some q=>
  have h1:=List.mem_of_find?_eq_some hf
  have h2:q.id=p.of:=by simpa using List.find?_some hf
  have:(l.any fun q=>decide (q.id=p.of)&&decide (q.of=0))=decide (q.of=0):=by
   rw[Bool.eq_iff_iff,List.any_eq_true]
   constructor
   ·rintro⟨r,hr,h⟩
    simp only[Bool.and_eq_true,decide_eq_true_eq] at h
    rw[sY hn h1 hr (by rw[h2,h.1])];simpa using h.2
   intro h;exact⟨q,h1,by simp[h2];simpa using h⟩
  rw[this]
theorem ahK {α:Type} {q:α→Bool} {r:α→α→Bool} {l:List α} {k:Nat} {x:α} (h:l[k]?=some x):o9 q r l k=(q x||(l.take k).any fun y=>r y x):=by unfold o9;rw[h]
theorem agX {l:List Part}:F8 l=some (decide (np l)):=by
 unfold F8
 by_cases h1:l.length < 1
 ·have:¬ np l:=fun h=>by have:=h.1.1;omega
  rw[ai (decide_eq_true (by omega)),af,ai rfl];simp[this]
 rw[ak (decide_eq_false (by omega)),af]
 by_cases h2:60 < l.length
 ·have:¬ np l:=fun h=>by have:=h.1.2;omega
  rw[ai (decide_eq_true (by omega))];simp[this]
 rw[ak (decide_eq_false (by omega)),E7 l.length (o9 (fun p=> !decide (eM p)||xZ l p) (fun x y=>decide (x.id=y.id)) l) false (fun k hk=>by
  have hx:l[k]?=some l[k]:=List.getElem?_eq_getElem hk
  generalize l[k]=x at hx
  rw[ai (by simpa using hk),aX (aW hx),agW,af]
  simp only[aX (aW hx),yy (l:=l) (by omega),af]
  rw[ahK hx]
  rw[vu,af]
  have Sj:=K7 (fun p:Part=>decide (p.id=x.id)) l k x hx (by simp)
  by_cases hp:eM x
  ·by_cases hd:((l.take k).any fun p=>decide (p.id=x.id))=false
   ·rw[ak (by rw[Sj.2 hd];simp[hp]),hd]
    have Kc:xZ l x=(!decide (x.of=0)&&(match l.find? fun q=>decide (q.id=x.of) with | some q=> !decide (q.of=0) | none=>true)):=rfl
    by_cases h0:x.of=0
    ·rw[ai (decide_eq_true h0),fQ,aJ (by omega),Kc];simp[h0,hp]
    rw[ak (decide_eq_false h0)]
    rcases mq l fun q=>decide (q.id=x.of) with ⟨g1,g2⟩ | ⟨j,q,g1,g2,g3,g4⟩
    ·rw[g2,ai (by simp),iK,Kc,g1];simp[h0]
    rw[g3,ak (decide_eq_false (by omega)),aX (aW g1),Kc,g2]
    by_cases hq:q.of=0
    ·rw[ak (by simp[hq]),fQ,aJ (by omega)];simp[hq,hp]
    rw[ai (by simp[hq]),iK];simp[hq,h0]
   have bc:¬ (ix l fun p:Part=>decide (p.id=x.id))=(k:Int):=fun h=>hd (Sj.1 h)
   rw[ai (by simp[bc]),iK,if_pos]
   rw[Bool.not_eq_false] at hd
   rw[hd];simp
  rw[ai (by simp[hp]),iK,if_pos (by simp[hp])]) (by rw[ak (by simp)])]
 have key:=Nf (fun p=> !decide (eM p)||xZ l p) (fun x y=>decide (x.id=y.id)) l
 rw[yx Part.id] at key
 have e:((∀ p∈l,(!decide (eM p)||xZ l p)=false)∧(l.map Part.id).Nodup)↔np l:=by
  constructor
  ·rintro⟨g1,g2⟩
   refine⟨by omega,fun p hp=>?_,g2,?_⟩
   ·have:=g1 p hp;simp at this;exact this.1
   rw[List.any_eq_false];intro p hp
   have:=g1 p hp;rw[UD g2] at this;simp at this;simp[this.2]
  rintro⟨_,g1,g2,g3⟩
  refine⟨fun p hp=>?_,g2⟩
  rw[UD g2]
  have:=List.any_eq_false.1 g3 p hp
  simp[g1 p hp];simpa using this
 rw[e] at key
 by_cases hc:np l
 ·rw[if_neg (fun h=>key.1 h hc),fQ];simp[hc]
 rw[if_pos (key.2 hc),iK];simp[hc]
end Go.Proofs.YtfhkmedbfiphbaaGreatDoor
namespace Go.Proofs.YtfhkmedbfiphbaaGreatDoor
open Go Go.aj Go.Sy
attribute [local instance] cD dh
def gq (l:List Part) (n:ag):Option Part:=(l.filter fun p=>decide (p.of=0)).find? fun p=>decide (p.id=n.part)
def mO (l:List Part) (n:ag):Bool:=match gq l n with | some p=> !decide (num p.low≤num n.aM∧num n.aM≤num p.high) | none=>false
def gr (l:List Part) (ns:List ag):Int:=if(ns.any fun n=>(gq l n).isNone)=true then 22 else if ns.any (mO l)=true then 20 else 0
theorem af1 {l:List Part} {n:ag} {p:Part} (h:gq l n=some p):p∈l∧p.of=0∧p.id=n.part:=by
 unfold gq at h
 have h1:=List.mem_of_find?_eq_some h
 have h2:=List.find?_some h
 rw[List.mem_filter] at h1
 exact⟨h1.1,by simpa using h1.2,by simpa using h2⟩
theorem Ml {l:List Part} (hn:(l.map Part.id).Nodup) (n:ag):gq l n=match l.find? fun p=>decide (p.id=n.part) with | some p=>if p.of=0 then some p else none | none=>none:=by
 cases hf:l.find? fun p=>decide (p.id=n.part) with
 | none=>
  unfold gq
  rw[List.find?_eq_none]
  intro x hx
  exact List.find?_eq_none.1 hf x (List.mem_filter.1 hx).1
 | some p=>
  have h1:=List.mem_of_find?_eq_some hf
  have h2:p.id=n.part:=by simpa using List.find?_some hf
  dsimp only
  by_cases h0:p.of=0
  ·rw[if_pos h0]
   unfold gq
   have:=qQ (id:=Part.id) (l:=l.filter fun p=>decide (p.of=0)) (hn.sublist (List.filter_sublist.map _)) (x:=p) (List.mem_filter.2 ⟨h1,by simp[h0]⟩)
   rw[h2] at this;exact this
  rw[if_neg h0]
  unfold gq
  rw[List.find?_eq_none]
  intro x hx
  obtain⟨KN,rk⟩:=List.mem_filter.1 hx
  simp only[decide_eq_true_eq] at rk ⊢
  intro he
  have:=sY hn KN h1 (by rw[he,h2])
  rw[this] at rk;exact h0 rk
theorem aiw (l:List Part) (n:ag):Gq (n,iE Part.id (l.filter fun p=>decide (p.of=0)))=some (gq l n).isNone:=by
 unfold Gq gq
 dsimp only
 rw[CW,zC]
 cases List.find? _ _<;>rfl
theorem aau {l:List Part} {n:ag} {p:Part} (h:gq l n=some p) (h1:bZ p.low) (h2:bZ p.high) (h3:bZ n.aM):Gr (n,iE Part.id (l.filter fun p=>decide (p.of=0)))=some (mO l n):=by
 unfold Gr mO
 dsimp only
 rw[y5]
 have h':=h
 unfold gq at h'
 rw[h',h]
 dsimp only[Option.getD]
 rw[Ca h3,Ca h1,Ca h2,af,af,af,Cg,af]
theorem aiH {l:List Part} (hl:l.length≤1000000) (hn:(l.map Part.id).Nodup) (hp:∀ p∈l,bZ p.low∧bZ p.high) {ns:List ag} (gO:ns.length≤1000000) (hq:∀ n∈ns,bZ n.aM):yo (l,ns)=some (gr l ns):=by
 unfold yo
 dsimp only
 rw[fg (σ:=List (Int×Part)) (st:=fun z k=>(k,z)) (l:=l) (fun z x=> .inl (if decide (x.of=0)=true then bz z x.id x else z)) (fun z=>z) (fun _ _=>True) (fun k x z hx _=>by
  have hk:=bU hx
  dsimp only
  rw[ai (by simpa using hk),aX (aW hx)]
  by_cases h:x.of=0
  ·rw[ai (decide_eq_true h),af,aJ (by omega)];simp[h]
  ·rw[ak (decide_eq_false h),af,aJ (by omega)];simp[h]) (fun _ _ _ _ _ _ _=>trivial) (fun z _=>by dsimp only;rw[ak (by simp)]) [] trivial,
  lC (fun(z:List (Int×Part)) (x:Part)=>if decide (x.of=0)=true then bz z x.id x else z) _ _ (fun _ _ _=>rfl),af,←List.foldl_filter (p:=fun x:Part=>decide (x.of=0)) (f:=fun(z:List (Int×Part)) (x:Part)=>bz z x.id x),
  DD Part.id _ [] (by simp) (hn.sublist (List.filter_sublist.map _)),List.nil_append]
 unfold gr
 have e1:Gs (ns,iE Part.id (l.filter fun p=>decide (p.of=0)))=some (ns.any fun n=>(gq l n).isNone):=by
  unfold Gs ML
  exact Oc (l:=ns) (fun n=>(gq l n).isNone) (fun k x hx=>by
   have hk:=bU hx
   rw[ai (by simpa using hk),aX (aW hx),aiw,af]
   cases (gq l x).isNone
   ·rw[ak rfl,aJ (by omega)];simp
   rw[ai rfl];simp) (by rw[ak (by simp)])
 rw[e1,af]
 by_cases hs:(ns.any fun n=>(gq l n).isNone)=true
 ·rw[ai hs,if_pos hs]
 rw[ak (by simpa using hs),if_neg hs]
 have e2:Gt (ns,iE Part.id (l.filter fun p=>decide (p.of=0)))=some (ns.any (mO l)):=by
  unfold Gt MM
  exact Oc (l:=ns) (mO l) (fun k x hx=>by
   have hk:=bU hx
   have hm:=List.mem_of_getElem? hx
   have ve:∃ p,gq l x=some p:=by
    cases ho:gq l x with
    | none=>exact absurd (List.any_eq_true.2 ⟨x,hm,by simp[ho]⟩) hs
    | some p=>exact⟨p,rfl⟩
   obtain⟨p,ho⟩:=ve
   obtain⟨m1,_,_⟩:=af1 ho
   rw[ai (by simpa using hk),aX (aW hx),aau ho (hp p m1).1 (hp p m1).2 (hq x hm),af]
   cases mO l x
   ·rw[ak rfl,aJ (by omega)];simp
   rw[ai rfl];simp) (by rw[ak (by simp)])
 rw[e2,af]
 by_cases hf:ns.any (mO l)=true
 ·rw[ai hf,if_pos hf]
 rw[ak (by simpa using hf),if_neg hf]
theorem V5 {l:List Part} (hl:l.length≤1000000) (hn:(l.map Part.id).Nodup) (n:ag):(gq l n=none∧yh (l,n)=some (-1))∨∃ (k:Nat) (p:Part),l[k]?=some p∧gq l n=some p∧yh (l,n)=some (k:Int):=by
 unfold yh
 dsimp only
 rw[yy hl,af,Ml hn]
 rcases mq l fun p=>decide (p.id=n.part) with ⟨h1,h2⟩ | ⟨k,p,h1,h2,h3,h4⟩
 ·left;rw[h1,h2,ai (by simp)];exact⟨rfl,rfl⟩
 rw[h2,h3,ak (decide_eq_false (by omega)),aX (aW h1)]
 dsimp only
 by_cases h0:p.of=0
 ·right;rw[if_pos h0,ak (by simp[h0])];exact⟨k,p,h1,rfl,rfl⟩
 left;rw[if_neg h0,ai (by simp[h0])];exact⟨rfl,rfl⟩
theorem ag3 {l:List Part} (hl:l.length≤1000000) (hn:(l.map Part.id).Nodup) (hp:∀ p∈l,bZ p.low∧bZ p.high) {ns:List ag} (gO:ns.length≤1000000) (hq:∀ n∈ns,bZ n.aM):yk (l,ns)=some (gr l ns):=by
 unfold yk gr
 dsimp only
 rw[xY (l:=ns) (fun n=>(gq l n).isNone) 22 (fun k x hx=>by
  have hk:=bU hx
  rw[ai (by simpa using hk),aX (aW hx)]
  rcases V5 hl hn x with ⟨g1,g2⟩ | ⟨j,p,g1,g2,g3⟩
  ·rw[g2,af,ai (by simp),g1];simp
  rw[g3,af,ak (decide_eq_false (by omega)),g2,aJ (by omega)];simp) (by rw[ak (by simp)])]
 by_cases hs:(ns.any fun n=>(gq l n).isNone)=true
 ·rw[if_pos hs,if_pos hs,iK]
 rw[if_neg hs,if_neg hs,fQ]
 rw[xY (l:=ns) (mO l) 20 (fun k x hx=>by
  have hk:=bU hx
  have hm:=List.mem_of_getElem? hx
  rw[ai (by simpa using hk),aX (aW hx)]
  rcases V5 hl hn x with ⟨g1,g2⟩ | ⟨j,p,g1,g2,g3⟩
  ·exact absurd (List.any_eq_true.2 ⟨x,hm,by simp[g1]⟩) hs
  have Al:=hp p (List.mem_of_getElem? g1)
  rw[g3,af,aX (aW g1),aX (aW hx)]
  unfold yi mO
  dsimp only
  rw[mw (hq x hm),mw Al.1,mw Al.2,af,af,af,yA,af,af,g2]
  dsimp only
  by_cases hc:num p.low≤num x.aM∧num x.aM≤num p.high
  ·rw[ak (by rw[decide_eq_true hc];rfl),aJ (by omega),if_neg (by rw[decide_eq_true hc];simp)];rfl
  rw[ai (by rw[decide_eq_false hc];rfl),if_pos (by rw[decide_eq_false hc];rfl)]) (by rw[ak (by simp)])]
 by_cases hf:ns.any (mO l)=true
 ·rw[if_pos hf,if_pos hf,iK]
 rw[if_neg hf,if_neg hf,fQ]
theorem OA (a b:Rat):HE a b=decide (a=b):=by
 obtain⟨a0,a1⟩:=a
 obtain⟨b0,b1⟩:=b
 rw[Bool.eq_iff_iff,decide_eq_true_eq]
 show dJ [.int .i64 a0,.int .i64 a1] [.int .i64 b0,.int .i64 b1]=true↔_
 simp[dJ,jN,Rat.mk.injEq,and_assoc]
theorem Yw (a b:Interval):Oy a b=decide (a=b):=by
 obtain⟨a0,a1⟩:=a
 obtain⟨b0,b1⟩:=b
 rw[Bool.eq_iff_iff,decide_eq_true_eq]
 show dJ [.int .i64 a0,.int .i64 a1] [.int .i64 b0,.int .i64 b1]=true↔_
 simp[dJ,jN,Interval.mk.injEq,and_assoc]
theorem Yt (a b:aD):Ow a b=decide (a=b):=by
 obtain⟨a0,⟨a1,a2⟩,a3⟩:=a
 obtain⟨b0,⟨b1,b2⟩,b3⟩:=b
 rw[Bool.eq_iff_iff,decide_eq_true_eq]
 show dJ [.int .i64 a0,.int .i64 a1,.int .i64 a2,.int .i64 a3] [.int .i64 b0,.int .i64 b1,.int .i64 b2,.int .i64 b3]=true↔_
 simp[dJ,jN,aD.mk.injEq,Rat.mk.injEq,and_assoc]
theorem Yx (a b:Part):Oz a b=decide (a=b):=by
 obtain⟨a0,a1,a2,a3,a4,⟨a5,a6⟩,⟨a7,a8,a9⟩,⟨sj,sm,a12⟩⟩:=a
 obtain⟨b0,b1,b2,b3,b4,⟨b5,b6⟩,⟨b7,b8,b9⟩,⟨CP,CQ,Ou⟩⟩:=b
 rw[Bool.eq_iff_iff,decide_eq_true_eq]
 show dJ [.int .i64 a0,.int .i64 a1,.int .i64 a2,.int .i64 a3,.int .i64 a4,.int .i64 a5,.int .i64 a6,.int .i64 a7,.int .i64 a8,.int .i64 a9,.int .i64 sj,.int .i64 sm,.int .i64 a12] [.int .i64 b0,.int .i64 b1,.int .i64 b2,.int .i64 b3,.int .i64 b4,.int .i64 b5,.int .i64 b6,.int .i64 b7,.int .i64 b8,.int .i64 b9,.int .i64 CP,.int .i64 CQ,.int .i64 Ou]=true↔_
 simp[dJ,jN,Interval.mk.injEq,Part.mk.injEq,aE.mk.injEq,and_assoc]
theorem qH (a b:ag):iR a b=decide (a=b):=by
 obtain⟨a0,a1,a2,a3,a4,⟨a5,a6⟩,⟨a7,a8⟩,⟨a9,sj,sm⟩⟩:=a
 obtain⟨b0,b1,b2,b3,b4,⟨b5,b6⟩,⟨b7,b8⟩,⟨b9,CP,CQ⟩⟩:=b
 rw[Bool.eq_iff_iff,decide_eq_true_eq]
 show dJ [.int .i64 a0,.int .i64 a1,.int .i64 a2,.int .i64 a3,.int .i64 a4,.int .i64 a5,.int .i64 a6,.int .i64 a7,.int .i64 a8,.int .i64 a9,.int .i64 sj,.int .i64 sm] [.int .i64 b0,.int .i64 b1,.int .i64 b2,.int .i64 b3,.int .i64 b4,.int .i64 b5,.int .i64 b6,.int .i64 b7,.int .i64 b8,.int .i64 b9,.int .i64 CP,.int .i64 CQ]=true↔_
 simp[dJ,jN,ag.mk.injEq,aE.mk.injEq,Rat.mk.injEq,and_assoc]
theorem Yz (a b:Written):OB a b=decide (a=b):=by
 obtain⟨a0,a1,a2,⟨a3,a4⟩,⟨a5,a6⟩,⟨a7,a8,a9⟩⟩:=a
 obtain⟨b0,b1,b2,⟨b3,b4⟩,⟨b5,b6⟩,⟨b7,b8,b9⟩⟩:=b
 rw[Bool.eq_iff_iff,decide_eq_true_eq]
 show dJ [.int .i64 a0,.int .i64 a1,.int .i64 a2,.int .i64 a3,.int .i64 a4,.int .i64 a5,.int .i64 a6,.int .i64 a7,.int .i64 a8,.int .i64 a9] [.int .i64 b0,.int .i64 b1,.int .i64 b2,.int .i64 b3,.int .i64 b4,.int .i64 b5,.int .i64 b6,.int .i64 b7,.int .i64 b8,.int .i64 b9]=true↔_
 simp[dJ,jN,aE.mk.injEq,Rat.mk.injEq,Written.mk.injEq,and_assoc]
theorem ah5 {a b:List ag} (ha:a.length≤1048576):MK (a,b)=some (decide (a=b)):=yE qH ha
theorem agZ {a b:List aD} (ha:a.length≤1048576):Mx (a,b)=some (decide (a=b)):=yE Yt ha
theorem ag0 {a b:List Part} (ha:a.length≤1048576):My (a,b)=some (decide (a=b)):=yE Yx ha
theorem agS {a b:List ag} (ha:a.length≤1048576):Mw (a,b)=some (decide (a=b)):=yE qH ha
theorem aha {a b:List Written} (ha:a.length≤1048576):MA (a,b)=some (decide (a=b)):=yE Yz ha
end Go.Proofs.YtfhkmedbfiphbaaGreatDoor
namespace Go.Proofs.YtfhkmedbfiphbaaGreatDoor
open Go Go.aj Go.Sy
attribute [local instance] cD dh
theorem acm {β:Type} (a b:Option β):ab (!true) a b=b:=rfl
theorem ack {β:Type} (a b:Option β):ab (!false) a b=a:=rfl
def cL (s:Score):Prop:=(1≤s.version∧s.version≤1000000)∧iC s.bars∧np s.parts∧eG s.bars s.notes∧gr s.parts s.notes=0∧fZ (cg s.bars) s.notes=s.notes
noncomputable instance (s:Score):Decidable (cL s):=inferInstanceAs (Decidable (_∧_∧_∧_∧_∧_))
theorem VK {l:List Part} (h:np l):∀ p∈l,bZ p.low∧bZ p.high:=fun p hp=>⟨(h.2.1 p hp).2.2.2.2.2.2.1,(h.2.1 p hp).2.2.2.2.2.2.2.1⟩
theorem Vd {bars:List aD} {l:List ag} (h:∀ n∈l,gn bars n):∀ n∈l,bZ n.aM:=fun n hn=>by
 obtain⟨k,b,h1,h2,h3,h4⟩:=n3 (h n hn)
 exact h3.2.2.2.2.2.2.2.2.1
theorem Xo {bars:List aD} {ps:List Part} {ns:List ag} (hp:np ps) (hn:eG bars ns):yo (ps,ns)=some (gr ps ns):=
 aiH (by have:=hp.1.2;omega) hp.2.2.1 (VK hp) (by have:=hn.2.1;omega) (Vd hn.2.2.1)
theorem V6 {bars:List aD} {ps:List Part} {ns:List ag} (hp:np ps) (hn:eG bars ns):yk (ps,ns)=some (gr ps ns):=
 ag3 (by have:=hp.1.2;omega) hp.2.2.1 (VK hp) (by have:=hn.2.1;omega) (Vd hn.2.2.1)
theorem aia {at_:List (Int×Int)} {l:List ag} (h1:∀ n∈l,rJ at_ n) (h2:pk (bM (nK at_)) l) (h3:l.length≤1000000000):yp (l,at_)=some (fZ at_ l):=by
 unfold yp Cc
 rw[if_pos ⟨h1,h2,by dsimp only;omega⟩];rfl
theorem UZ {β:Type} {e:Bool} {a b:Option β} (h:e=true→a=b):rL e a b=b:=by
 cases e
 ·rfl
 unfold rL;rw[h rfl];exact if_pos rfl
theorem afw {bars:List aD} {l:List ag} (h:eG bars l):FW (bars,l)=some (fZ (cg bars) l):=by
 have:=h.1.1.2
 have:=h.2.1
 unfold FW
 dsimp only
 rw[U0 (by omega),af]
 have hs:=aia (at_:=cg bars) (l:=l) (fun n hn=>afs h.1 (h.2.2.1 n hn)) (Mb h.2.2.2) (by omega)
 have hB:(ar (decide ((List.append ([]:List ag) l).length*96≤140737488355328∧(List.append ([]:List ag) l).length≤9223372036854775807)) <| aa (yp ((List.append ([]:List ag) l),cg bars)) fun v3=>some v3)=some (fZ (cg bars) l):=by
  rw[cq (decide_eq_true (by show l.length*96≤_∧l.length≤_;omega)),show List.append ([]:List ag) l=l from rfl,hs,af]
 rw[UZ (fun he=>?_),hB]
 rw[hB]
 have he:l=[]:=List.isEmpty_iff.1 he
 subst he
 rw[hs,af,show fZ (cg bars) []=[] by simp[fZ,qo]]
theorem Qw {α:Type} {l:List α} {k:Nat} (h:l.length*k≤140737488355328) (h2:l.length≤9223372036854775807):rL (List.isEmpty l) (some ([]:List α)) (ar (decide ((List.append ([]:List α) l).length*k≤140737488355328∧(List.append ([]:List α) l).length≤9223372036854775807)) <| some (List.append ([]:List α) l))=some l:=by
 have hB:(ar (decide ((List.append ([]:List α) l).length*k≤140737488355328∧(List.append ([]:List α) l).length≤9223372036854775807)) <| some (List.append ([]:List α) l))=some l:=cq (decide_eq_true ⟨h,h2⟩)
 rw[UZ (fun he=>?_),hB]
 rw[hB,List.isEmpty_iff.1 he]
theorem Zv {l:List aD} (h:l.length≤1000000000):MI l=some l:=Qw (by omega) (by omega)
theorem Zw {l:List Part} (h:l.length≤1000000000):MJ l=some l:=Qw (by omega) (by omega)
theorem UX {bars:List aD} {ns:List ag} (hb:bars.length≤1048576) (hn:eG bars ns):Bn (bars,ns)=some (fZ (cg bars) ns,0):=by
 unfold Bn
 dsimp only
 rw[Fm hb,af,ak (by simp[hn]),afw hn,af]
theorem Xa {at_:List (Int×Int)} (l:List ag):(fZ at_ l).length=l.length:=(G9 _ l).length_eq
theorem B8 {s:Score} (hb:s.bars.length≤1048576):tI s=some (decide (cL s)):=by
 unfold tI
 rw[G6,af]
 by_cases h1:1≤s.version∧s.version≤1000000
 ·rw[ak (by rw[decide_eq_true h1];rfl)]
  rw[UG hb,af]
  by_cases h2:iC s.bars
  ·rw[ak (by rw[decide_eq_true h2];rfl),ahJ,af]
   by_cases h3:np s.parts
   ·rw[ak (by rw[decide_eq_true h3];rfl),Fm hb,af]
    by_cases h4:eG s.bars s.notes
    ·rw[ak (by rw[decide_eq_true h4];rfl),Xo h3 h4,af,af]
     by_cases h5:gr s.parts s.notes=0
     ·rw[ak (by simp[h5]),UX hb h4,af]
      dsimp only
      rw[ai (by simp),ah5 (by rw[Xa];have:=h4.2.1;omega),af,af]
      congr 1
      rw[decide_eq_decide]
      exact⟨fun h=>⟨h1,h2,h3,h4,h5,h⟩,fun h=>h.2.2.2.2.2⟩
     rw[ai (by simp[h5])]
     congr 1;symm;exact decide_eq_false fun h=>h5 h.2.2.2.2.1
    rw[ai (by rw[decide_eq_false h4];rfl),af,ai rfl]
    congr 1;symm;exact decide_eq_false fun h=>h4 h.2.2.2.1
   rw[ai (by rw[decide_eq_false h3];rfl),af,ai rfl]
   congr 1;symm;exact decide_eq_false fun h=>h3 h.2.2.1
  rw[ai (by rw[decide_eq_false h2];rfl),af,ai rfl]
  congr 1;symm;exact decide_eq_false fun h=>h2 h.2.1
 rw[ai (by rw[decide_eq_false h1];rfl),af,ai rfl]
 congr 1;symm;exact decide_eq_false fun h=>h1 h.1
theorem GM (s:Score):yj s=some (decide (cL s)):=by
 unfold yj
 rw[V0,agX,af,af,yA,af]
 by_cases h1:1≤s.version∧s.version≤1000000
 ·rw[ak (by rw[decide_eq_true h1];rfl)]
  by_cases h2:iC s.bars
  ·rw[ak (by rw[decide_eq_true h2];rfl)]
   by_cases h3:np s.parts
   ·rw[decide_eq_true h3,af,acm,V3,af]
    by_cases h4:eG s.bars s.notes
    ·rw[ak (by rw[decide_eq_true h4];rfl),V6 h3 h4,af]
     by_cases h5:gr s.parts s.notes=0
     ·rw[ak (by simp[h5])]
      have hl:=h4.2.1
      rw[aeM (s.notes.length - 1) (uK (cg s.bars) s.notes) false (fun k hk=>by
       have e1:s.notes[k]?=some s.notes[k]:=List.getElem?_eq_getElem (by omega)
       have e2:s.notes[k+1]?=some s.notes[k+1]:=List.getElem?_eq_getElem (by omega)
       have m1:=h4.2.2.1 _ (List.getElem_mem (h:=(by omega:k < s.notes.length)))
       have m2:=h4.2.2.1 _ (List.getElem_mem (h:=(by omega:k+1 < s.notes.length)))
       generalize s.notes[k]=x at *
       generalize s.notes[k+1]=y at *
       have e3:uK (cg s.bars) s.notes k = !decide (bM (nK (cg s.bars)) x y < 0):=by unfold uK;rw[e1,e2]
       rw[ai (decide_eq_true (by omega)),aJ (by omega),show(k:Int)+1 - 1=(k:Int) by omega,aX (aW e1),show(k:Int)+1=((k+1:Nat):Int) from rfl,aX (aW e2),V2 h2 m1 m2,af,e3]
       by_cases h:bM (nK (cg s.bars)) x y < 0
       ·rw[ak (by rw[decide_eq_true h];rfl),aJ (by omega),if_neg (by rw[decide_eq_true h];simp)]
       ·rw[ai (by rw[decide_eq_false h];rfl),if_pos (by rw[decide_eq_false h];rfl)]) (by
       rw[ak (decide_eq_false (by omega))])]
      have key:=RB (at_:=cg s.bars) h4.2.2.2
      by_cases h6:fZ (cg s.bars) s.notes=s.notes
      ·rw[if_neg (fun h=>key.1 h h6),fQ]
       rw[decide_eq_true (p:=cL s) ⟨h1,h2,h3,h4,h5,h6⟩]
      rw[if_pos (key.2 h6),iK]
      rw[decide_eq_false (p:=cL s) fun h=>h6 h.2.2.2.2.2]
     rw[ai (by simp[h5])]
     congr 1;symm;exact decide_eq_false fun h=>h5 h.2.2.2.2.1
    rw[ai (by rw[decide_eq_false h4];rfl)]
    congr 1;symm;exact decide_eq_false fun h=>h4 h.2.2.2.1
   rw[decide_eq_false h3,af,ack]
   congr 1;symm;exact decide_eq_false fun h=>h3 h.2.2.1
  rw[ai (by rw[decide_eq_false h2];rfl),af,ai rfl]
  congr 1;symm;exact decide_eq_false fun h=>h2 h.2.1
 rw[ai (by rw[decide_eq_false h1];rfl),af,ai rfl]
 congr 1;symm;exact decide_eq_false fun h=>h1 h.1
def jg:Score:=⟨0,[],[],[]⟩
noncomputable def jJ (s:Score) (v:Int) (l:List ag):Score×Int:=
 if cL s∧(1≤v∧v≤1000000)∧eG s.bars l then(if gr s.parts l=0 then(⟨v,s.bars,s.parts,fZ (cg s.bars) l⟩,0) else(jg,gr s.parts l)) else(jg,1)
theorem ahH {s:Score} (hb:s.bars.length≤1048576) (v:Int) (l:List ag):Gk (s,v,l)=some (jJ s v l):=by
 unfold Gk jJ
 dsimp only
 rw[B8 hb,af]
 by_cases h1:cL s
 ·rw[ak (by rw[decide_eq_true h1];rfl),G6,af]
  by_cases h2:1≤v∧v≤1000000
  ·rw[ak (by rw[decide_eq_true h2];rfl),Fm hb,af]
   by_cases h3:eG s.bars l
   ·rw[decide_eq_true h3,af,ak (c:= !true) rfl,Xo h1.2.2.1 h3,af,if_pos ⟨h1,h2,h3⟩]
    by_cases h4:gr s.parts l=0
    ·rw[ak (by simp[h4]),if_pos h4,UX hb h3,af]
     have:=h1.2.1.1.2
     have:=h1.2.2.1.1.2
     rw[Zv (by omega),Zw (by omega),af,af]
    rw[ai (by simp[h4]),if_neg h4];rfl
   rw[decide_eq_false h3,af,ai (c:= !false) rfl,if_neg fun h=>h3 h.2.2];rfl
  rw[ai (by rw[decide_eq_false h2];rfl),af,ai rfl,if_neg fun h=>h2 h.2.1];rfl
 rw[ai (by rw[decide_eq_false h1];rfl),af,ai rfl,if_neg fun h=>h1 h.1];rfl
theorem ag2 (s:Score) (v:Int) (l:List ag):Ga (s,v,l)=some (jJ s v l):=by
 unfold Ga jJ
 dsimp only
 rw[GM,af]
 by_cases h1:cL s
 ·rw[ak (by rw[decide_eq_true h1];rfl),yA,af,af]
  by_cases h2:1≤v∧v≤1000000
  ·rw[ak (by rw[decide_eq_true h2];rfl),V3,af]
   by_cases h3:eG s.bars l
   ·rw[ak (by rw[decide_eq_true h3];rfl),V6 h1.2.2.1 h3,af,if_pos ⟨h1,h2,h3⟩]
    by_cases h4:gr s.parts l=0
    ·have:=h3.2.1
     rw[ak (by simp[h4]),if_pos h4]
     rw[agT h1.2.1 h3.2.2.1 (by omega) h3.2.2.2,af]
    rw[ai (by simp[h4]),if_neg h4];rfl
   rw[ai (by rw[decide_eq_false h3];rfl),if_neg fun h=>h3 h.2.2];rfl
  rw[ai (by rw[decide_eq_false h2];rfl),if_neg fun h=>h2 h.2.1];rfl
 rw[ai (by rw[decide_eq_false h1];rfl),af,ai rfl,if_neg fun h=>h1 h.1];rfl
end Go.Proofs.YtfhkmedbfiphbaaGreatDoor
namespace Go.Proofs.YtfhkmedbfiphbaaGreatDoor
open Go Go.aj Go.Sy
attribute [local instance] cD dh
def dS (k:Int):Prop:= -7≤k∧k≤7
instance (k:Int):Decidable (dS k):=inferInstanceAs (Decidable (_∧_))
def cQ (i:Interval):Interval:=⟨-i.steps,-i.bG⟩
def dL (i:Interval):Int:=7*i.bG - 12*i.steps
def et (t:Int):Int:=if 7 < t then(t+4) / 12 else if t < -7 then -((4 - t) / 12) else 0
def A7 (key:Int) (i:Interval):Int:=(key+dL i) - 12*et (key+dL i)
def rI (key:Int) (i:Interval):Interval:=⟨i.steps+et (key+dL i),i.bG⟩
theorem AL (k:Int):vY k=some (decide (dS k)):=lT k (-7) 7
theorem MY (k:Int):Bu k=some (decide (dS k)):=lT k (-7) 7
theorem Vn {t:Int} (h:7 < t):et t=et (t - 12)+1:=by
 unfold et
 rw[if_pos h]
 split
 ·omega
 rw[if_neg (by omega)];omega
theorem Vm {t:Int} (h:t < -7):et t=et (t+12) - 1:=by
 unfold et
 rw[if_neg (by omega),if_pos h]
 split
 ·omega
 split<;>omega
theorem Ba {t:Int} (h:dS t):et t=0:=by
 unfold et dS at *
 rw[if_neg (by omega),if_neg (by omega)]
theorem Mf (t:Int):dS (t - 12*et t):=by
 unfold et dS
 split
 ·omega
 split<;>omega
theorem UB:∀ (n:Nat) (s t:Int),-7≤t→t≤12*n+7→s.natAbs+n≤1000000→n≤100000→aU (fun v4:(Int×Int)=>aa (vY v4.2) fun v5=>ab (!v5) (ar (az (1*12)) <| ar (az (v4.2 - (1*12))) <| ar (az (v4.1+1)) <| some (.inl ((v4.1+1),(v4.2 - (1*12))))) (some (.inr (v4.1,v4.2)))) (s,t)=some (s+et t,t - 12*et t)
 | n,s,t,h1,h2,h3,h4=>by
  by_cases h:dS t
  ·rw[Ba h]
   refine kv ?_
   dsimp only
   rw[AL,af,ak (by simp[h])];simp
  have h7:7 < t:=by unfold dS at h;omega
  match n,h2,h3,h4 with
  | 0,h2,_,_=>exact absurd h2 (by omega)
  | n+1,h2,h3,h4=>
   rw[oQ (z':=(s+1,t - 12)) (by
    dsimp only
    rw[AL,af,ai (by simp[h]),aJ (by omega),aJ (by omega),aJ (by omega)];rfl),UB n (s+1) (t - 12) (by omega) (by omega) (by omega) (by omega),Vn h7]
   congr 2<;>omega
theorem Uz:∀ (n:Nat) (s t:Int),t≤7 → -(12*(n:Int)+7)≤t→s.natAbs+n≤1000000→n≤100000→aU (fun v4:(Int×Int)=>aa (vY v4.2) fun v5=>ab (!v5) (ar (az ((-1)*12)) <| ar (az (v4.2 - ((-1)*12))) <| ar (az (v4.1+(-1))) <| some (.inl ((v4.1+(-1)),(v4.2 - ((-1)*12))))) (some (.inr (v4.1,v4.2)))) (s,t)=some (s+et t,t - 12*et t)
 | n,s,t,h1,h2,h3,h4=>by
  by_cases h:dS t
  ·rw[Ba h]
   refine kv ?_
   dsimp only
   rw[AL,af,ak (by simp[h])];simp
  have h7:t < -7:=by unfold dS at h;omega
  match n,h2,h3,h4 with
  | 0,h2,_,_=>exact absurd h2 (by omega)
  | n+1,h2,h3,h4=>
   rw[oQ (z':=(s+(-1),t - ((-1)*12))) (by
    dsimp only
    rw[AL,af,ai (by simp[h]),aJ (by omega),aJ (by omega),aJ (by omega)]),Uz n (s+(-1)) (t - ((-1)*12)) (by omega) (by omega) (by omega) (by omega),Vm h7,show t - (-1)*12=t+12 by omega]
   congr 2<;>omega
theorem Lk {key:Int} {i:Interval} (hk:dS key) (hi:dq i):yc (key,i)=some (A7 key i,rI key i,0):=by
 have gz:=hk
 have dN:=hi
 unfold dS at gz
 unfold dq at dN
 unfold yc
 dsimp only
 rw[K8,if_pos hi,af]
 dsimp only
 rw[ak (by simp),AL,af,af,ak (by simp[hk]),aJ (by omega)]
 have e:7*i.bG - 12*i.steps+key=key+dL i:=by unfold dL;omega
 rw[e]
 have hb : -2000≤key+dL i∧key+dL i≤2000:=by unfold dL;omega
 by_cases h:0 < key+dL i
 ·rw[ai (by simp[h]),UB 1000 i.steps (key+dL i) (by omega) (by omega) (by omega) (by omega)];rfl
 rw[ak (by simp;omega),Uz 1000 i.steps (key+dL i) (by omega) (by omega) (by omega) (by omega)];rfl
theorem UC:∀ (n:Nat) (s t:Int),t≤12*n+7 → -100000≤t→s.natAbs+n≤1000000→n≤100000→aU (fun v4:(Int×Int)=>ab (aA 7 v4.1) (ar (az (v4.1 - 12)) <| ar (az (v4.2+1)) <| some (.inl ((v4.1 - 12),(v4.2+1)))) (some (.inr (v4.1,v4.2)))) (t,s)=some (if 7 < t then(t - 12*et t,s+et t) else(t,s))
 | n,s,t,h1,h2,h3,h4=>by
  by_cases h7:7 < t
  ·match n,h1,h3,h4 with
   | 0,h1,_,_=>exact absurd h1 (by omega)
   | n+1,h1,h3,h4=>
    rw[oQ (z':=(t - 12,s+1)) (by
     dsimp only
     rw[ai (by simp[h7]),aJ (by omega),aJ (by omega)]),UC n (s+1) (t - 12) (by omega) (by omega) (by omega) (by omega),if_pos h7,Vn h7]
    by_cases h8:7 < t - 12
    ·rw[if_pos h8];congr 2<;>omega
    rw[if_neg h8,Ba (by unfold dS;omega)];congr 2<;>omega
  rw[if_neg h7]
  refine kv ?_
  dsimp only
  rw[ak (by simp;omega)]
theorem LK:∀ (n:Nat) (s t:Int),-(12*(n:Int)+7)≤t→t≤7→s.natAbs+n≤1000000→n≤100000→aU (fun v5:(Int×Int)=>ab (aA v5.1 (-7)) (ar (az (v5.1+12)) <| ar (az (v5.2 - 1)) <| some (.inl ((v5.1+12),(v5.2 - 1)))) (some (.inr (v5.1,v5.2)))) (t,s)=some (t - 12*et t,s+et t)
 | n,s,t,h1,h2,h3,h4=>by
  by_cases h7:t < -7
  ·match n,h1,h3,h4 with
   | 0,h1,_,_=>exact absurd h1 (by omega)
   | n+1,h1,h3,h4=>
    rw[oQ (z':=(t+12,s - 1)) (by
     dsimp only
     rw[ai (by simp[h7]),aJ (by omega),aJ (by omega)]),LK n (s - 1) (t+12) (by omega) (by omega) (by omega) (by omega),Vm h7]
    congr 2<;>omega
  rw[Ba (by unfold dS;omega)]
  refine kv ?_
  dsimp only
  rw[ak (by simp;omega)];simp
theorem agN {key:Int} {i:Interval} (hk:dS key) (hi:dq i):F0 (key,i)=some (A7 key i,rI key i,0):=by
 have gz:=hk
 have dN:=hi
 unfold dS at gz
 unfold dq at dN
 unfold F0
 dsimp only
 rw[VZ,if_pos hi,af]
 dsimp only
 rw[ak (by simp),MY,af,af,ak (by simp[hk]),aJ (by omega)]
 have e:key+(7*i.bG - 12*i.steps)=key+dL i:=by unfold dL;omega
 rw[e]
 have hb : -2000≤key+dL i∧key+dL i≤2000:=by unfold dL;omega
 rw[UC 1000 i.steps (key+dL i) (by omega) (by omega) (by omega) (by omega),af]
 have fW:=Mf (key+dL i)
 by_cases h:7 < key+dL i
 ·rw[if_pos h]
  dsimp only
  have hk0:0≤et (key+dL i)∧et (key+dL i)≤1000:=by unfold et;rw[if_pos h];omega
  have h0:=Ba fW
  unfold dS at fW
  rw[LK 1000 _ _ (by omega) (by omega) (by omega) (by omega),af,h0]
  unfold A7 rI
  simp
 rw[if_neg h]
 dsimp only
 rw[LK 1000 _ _ (by omega) (by omega) (by omega) (by omega),af]
 rfl
theorem FH {i:Interval} (h:dq i):rP i=some (cQ i,0):=by
 have h':=h
 unfold dq at h'
 unfold rP wc
 simp only[FY,af,j3]
 unfold j9
 rw[ak (by simp;omega),aJ (by omega),aJ (by omega)]
 unfold cQ
 simp
theorem VW (i:Interval):Br i=some (decide (dq i)):=by
 unfold Br
 simp only[MX,af,j3]
 refine mC ?_
 unfold dq
 simp
theorem af8 (i:Interval):wc i=some (decide (dq i)):=by
 unfold wc
 simp only[FY,af,j3]
 refine mC ?_
 unfold dq
 simp
theorem VV {i:Interval} (h:dq i):yf i=some (cQ i,0):=by
 have h':=h
 unfold dq at h'
 unfold yf
 rw[VW,af,ak (by simp[h])]
 unfold j9
 rw[aJ (by omega),aJ (by omega)]
 unfold cQ
 simp
theorem r6 {i:Interval} (h:iQ i):dq i∧dq (cQ i):=by
 unfold iQ at h
 unfold dq cQ
 dsimp only
 omega
theorem L5 {key:Int} {i:Interval} (hk:dS key) (h:iQ i):dq (rI key (cQ i))∧dq (cQ (rI key (cQ i)))∧dS (A7 key (cQ i)):=by
 refine⟨?_,?_,Mf _⟩
 all_goals
  have hb : -100≤et (key+dL (cQ i))∧et (key+dL (cQ i))≤100 → -45≤et (key+dL (cQ i))∧et (key+dL (cQ i))≤45:=by
   intro _
   unfold iQ at h
   unfold dS at hk
   unfold et dL cQ
   dsimp only
   split
   ·omega
   split<;>omega
  have jS : -100≤et (key+dL (cQ i))∧et (key+dL (cQ i))≤100:=by
   unfold iQ at h
   unfold dS at hk
   unfold et dL cQ
   dsimp only
   split
   ·omega
   split<;>omega
  have hb:=hb jS
  unfold dq rI
  unfold iQ at h
  dsimp only[cQ] at *
  omega
theorem Xf (v:Int):(if Int.tmod v 7 < 0 then(Int.tdiv v 7 - 1,Int.tmod v 7+7) else(Int.tdiv v 7,Int.tmod v 7))=(v / 7,v % 7):=by
 rcases Int.lt_or_le v 0 with h | h
 ·obtain⟨w,rfl⟩:∃ w:Int,v = -w:=⟨-v,by omega⟩
  rw[Int.neg_tmod,Int.neg_tdiv,Int.tmod_eq_emod_of_nonneg (by omega),Int.tdiv_eq_ediv_of_nonneg (by omega)]
  split<;>(congr 1<;>omega)
 rw[Int.tmod_eq_emod_of_nonneg h,Int.tdiv_eq_ediv_of_nonneg h,if_neg (by omega)]
theorem agh {v:Int} (h : -5000≤v∧v≤5000):FX (v,7)=some (v / 7,v % 7):=by
 have hb : -1000≤v.tdiv 7∧v.tdiv 7≤1000 ∧ -7 < v.tmod 7∧v.tmod 7 < 7:=by
  rcases Int.lt_or_le v 0 with h0 | h0
  ·obtain⟨w,rfl⟩:∃ w:Int,v = -w:=⟨-v,by omega⟩
   rw[Int.neg_tmod,Int.neg_tdiv,Int.tmod_eq_emod_of_nonneg (by omega),Int.tdiv_eq_ediv_of_nonneg (by omega)]
   omega
  rw[Int.tmod_eq_emod_of_nonneg h0,Int.tdiv_eq_ediv_of_nonneg h0];omega
 have sT:=Xf v
 unfold FX
 dsimp only
 rw[cq (by decide),aJ (by omega),cq (by decide),←sT]
 by_cases hn:v.tmod 7 < 0
 ·rw[ai (by simp[hn]),aJ (by omega),aJ (by omega),if_pos hn]
 rw[ak (by simp;omega),if_neg hn]
def pl (p:aE):Int:=7*p.au+p.step
def kF (place n:Int):aE:=⟨place % 7,n - (12*(place / 7)+jz (place % 7)),place / 7⟩
def e8 (p:aE) (i:Interval):aE×Int:=if bZ p∧dq i then(if bZ (kF (pl p+i.steps) (num p+i.bG)) then(kF (pl p+i.steps) (num p+i.bG),0) else(⟨0,0,0⟩,3)) else(⟨0,0,0⟩,1)
theorem age {p:aE} (h1:0≤p.step∧p.step≤6) (h2 : -1000≤p.alter∧p.alter≤1000) (h3 : -1000≤p.au∧p.au≤1000):tF p=some (num p):=by
 have hn:=vR p.step
 have ha:av [0,2,4,5,7,9,11] p.step=some (jz p.step):=by
  show av x7 p.step=_
  unfold av jz
  rw[if_pos h1.1]
  have:p.step.toNat < x7.length:=by show _ < 7;omega
  rw[List.getElem?_eq_getElem this];rfl
 unfold tF
 rw[aJ (by omega),aX ha,aJ (by omega),aJ (by omega)]
 rfl
theorem agM {p:aE} (h1:0≤p.step∧p.step≤6) (h2 : -1000≤p.alter∧p.alter≤1000) (h3 : -1000≤p.au∧p.au≤1000):jE p=some (num p):=by
 have hn:=vR p.step
 unfold jE
 rw[aJ (by omega),VY h1,af,aJ (by omega),aJ (by omega)]
 rfl
theorem Ot {p:aE} (h:bZ p):kF (pl p) (num p)=p:=by
 obtain⟨⟨h1,h2⟩,_⟩:=h
 unfold kF pl
 have e1:(7*p.au+p.step) % 7=p.step:=by omega
 have e2:(7*p.au+p.step) / 7=p.au:=by omega
 rw[e1,e2]
 unfold num
 cases p
 congr 1
 dsimp only
 omega
theorem Vx (p:aE) (i:Interval):Bq (p,i)=some (e8 p i):=by
 unfold Bq e8
 dsimp only
 rw[oX,af]
 by_cases hp:bZ p
 ·rw[ak (by simp[hp]),af8,af]
  by_cases hi:dq i
  ·rw[af,ak (by simp[hi]),if_pos ⟨hp,hi⟩,Yw]
   by_cases h0:i=⟨0,0⟩
   ·subst h0
    rw[ai (by simp),show pl p+(⟨0,0⟩:Interval).steps=pl p by dsimp only;omega,show num p+(⟨0,0⟩:Interval).bG=num p by dsimp only;omega,Ot hp,if_pos hp]
   have jY:=hp
   have dN:=hi
   unfold bZ at jY
   unfold dq at dN
   have hn:=Fy hp
   rw[ak (by simp[h0])]
   unfold Ms
   rw[aJ (by omega),aJ (by omega),af,aJ (by omega)]
   have hs:=agh (v:=7*p.au+p.step+i.steps) (by omega)
   rw[hs,af,VM hp,af,aJ (by omega)]
   dsimp only
   have hm:0≤(7*p.au+p.step+i.steps) % 7∧(7*p.au+p.step+i.steps) % 7≤6:=by omega
   have hd : -1000≤(7*p.au+p.step+i.steps) / 7∧(7*p.au+p.step+i.steps) / 7≤1000:=by omega
   have eL:=vR ((7*p.au+p.step+i.steps) % 7)
   rw[age (p:=⟨(7*p.au+p.step+i.steps) % 7,0,(7*p.au+p.step+i.steps) / 7⟩) hm (by dsimp only;omega) hd,af]
   unfold num at hn
   have e:num (⟨(7*p.au+p.step+i.steps) % 7,0,(7*p.au+p.step+i.steps) / 7⟩:aE)=12*((7*p.au+p.step+i.steps) / 7)+jz ((7*p.au+p.step+i.steps) % 7):=by unfold num;dsimp only;omega
   rw[e]
   have ep:(⟨(7*p.au+p.step+i.steps) % 7,num p+i.bG - (12*((7*p.au+p.step+i.steps) / 7)+jz ((7*p.au+p.step+i.steps) % 7)),(7*p.au+p.step+i.steps) / 7⟩:aE)=kF (pl p+i.steps) (num p+i.bG):=rfl
   rw[aJ (by unfold num;omega),ep,oX,af]
   by_cases hq:bZ (kF (pl p+i.steps) (num p+i.bG))
   ·rw[ak (by simp[hq]),if_pos hq]
   rw[ai (by simp[hq]),if_neg hq]
  rw[af,ai (by simp[hi]),if_neg (fun h=>hi h.2)]
 rw[ai (by simp[hp]),af,ai rfl,if_neg (fun h=>hp h.1)]
end Go.Proofs.YtfhkmedbfiphbaaGreatDoor
namespace Go.Proofs.YtfhkmedbfiphbaaGreatDoor
open Go Go.aj Go.Sy
attribute [local instance] cD dh
theorem agL (p:aE) (i:Interval):FZ (p,i)=some (e8 p i):=by
 unfold FZ e8
 dsimp only
 rw[tO,af,VW,af]
 by_cases hp:bZ p
 ·rw[ak (by simp[hp]),af]
  by_cases hi:dq i
  ·rw[ak (by simp[hi]),if_pos ⟨hp,hi⟩]
   have jY:=hp
   have dN:=hi
   unfold bZ at jY
   unfold dq at dN
   have hn:=Fy hp
   unfold Mt
   have hv : -5000≤7*p.au+p.step+i.steps∧7*p.au+p.step+i.steps≤5000:=by omega
   rw[aJ (by omega),aJ (by omega),af,aJ (by omega)]
   have KA:(aa (ab (aA (Int.tmod (7*p.au+p.step+i.steps) 7) 0) (ar (az ((Int.tmod (7*p.au+p.step+i.steps) 7)+7)) <| ar (az ((Int.tdiv (7*p.au+p.step+i.steps) 7) - 1)) <| some (((Int.tmod (7*p.au+p.step+i.steps) 7)+7),((Int.tdiv (7*p.au+p.step+i.steps) 7) - 1))) (some ((Int.tmod (7*p.au+p.step+i.steps) 7),(Int.tdiv (7*p.au+p.step+i.steps) 7)))) fun(v6:(Int×Int))=>some v6)=some ((7*p.au+p.step+i.steps) % 7,(7*p.au+p.step+i.steps) / 7) ∧ -1000≤(7*p.au+p.step+i.steps).tdiv 7∧(7*p.au+p.step+i.steps).tdiv 7≤1000:=by
    generalize 7*p.au+p.step+i.steps=v at *
    have hb : -1000≤v.tdiv 7∧v.tdiv 7≤1000 ∧ -7 < v.tmod 7∧v.tmod 7 < 7:=by
     rcases Int.lt_or_le v 0 with h0 | h0
     ·obtain⟨w,rfl⟩:∃ w:Int,v = -w:=⟨-v,by omega⟩
      rw[Int.neg_tmod,Int.neg_tdiv,Int.tmod_eq_emod_of_nonneg (by omega),Int.tdiv_eq_ediv_of_nonneg (by omega)]
      omega
     rw[Int.tmod_eq_emod_of_nonneg h0,Int.tdiv_eq_ediv_of_nonneg h0];omega
    have sT:=Xf v
    refine⟨?_,hb.1,hb.2.1⟩
    by_cases hn:v.tmod 7 < 0
    ·rw[if_pos hn] at sT
     injection sT with e1 e2
     rw[ai (by simp[hn]),aJ (by omega),aJ (by omega),af,e1,e2]
    rw[if_neg hn] at sT
    injection sT with e1 e2
    rw[ak (by simp;omega),af,e1,e2]
   obtain⟨KA,jR,jS⟩:=KA
   have y4:∀ {β:Type} (o:Option (Int×Int)) (f:Int×Int→Option β) (z:Int×Int),(aa o fun v=>some v)=some z→aa o f=f z:=by
    intro β o f z h
    cases o with
    | none=>cases h
    | some y=>injection h with h;subst h;rfl
   rw[cq (by decide),cq (by decide),aJ (by omega),y4 _ _ _ KA,mw hp,af,aJ (by omega)]
   dsimp only
   have hm:0≤(7*p.au+p.step+i.steps) % 7∧(7*p.au+p.step+i.steps) % 7≤6:=by omega
   have hd : -1000≤(7*p.au+p.step+i.steps) / 7∧(7*p.au+p.step+i.steps) / 7≤1000:=by omega
   have eL:=vR ((7*p.au+p.step+i.steps) % 7)
   rw[agM (p:=⟨(7*p.au+p.step+i.steps) % 7,0,(7*p.au+p.step+i.steps) / 7⟩) hm (by dsimp only;omega) hd,af]
   have e:num (⟨(7*p.au+p.step+i.steps) % 7,0,(7*p.au+p.step+i.steps) / 7⟩:aE)=12*((7*p.au+p.step+i.steps) / 7)+jz ((7*p.au+p.step+i.steps) % 7):=by unfold num;dsimp only;omega
   rw[e]
   have ep:(⟨(7*p.au+p.step+i.steps) % 7,num p+i.bG - (12*((7*p.au+p.step+i.steps) / 7)+jz ((7*p.au+p.step+i.steps) % 7)),(7*p.au+p.step+i.steps) / 7⟩:aE)=kF (pl p+i.steps) (num p+i.bG):=rfl
   rw[aJ (by omega),ep,tO,af]
   by_cases hq:bZ (kF (pl p+i.steps) (num p+i.bG))
   ·rw[ak (by simp[hq]),if_pos hq]
   rw[ai (by simp[hq]),if_neg hq]
  rw[ai (by simp[hi]),if_neg (fun h=>hi h.2)]
 rw[ai (by simp[hp]),af,ai rfl,if_neg (fun h=>hp h.1)]
theorem AN {p:aE} (h:bZ p):tA p=some (num p):=by
 unfold tA
 rw[Be,if_pos h,af]
theorem K6 (n m:Int) (hm:0≤m∧m≤1000):ya (n,m)=some (decide (-m≤n∧n≤m)):=by
 unfold ya j9
 dsimp only
 rw[aJ (by omega),show 0 - m = -m by omega]
 exact lT n (-m) m
theorem EH {p:Part} (h:eM p):vX p=some true:=by
 obtain⟨_,_,hs,hc⟩:=(nk p).1 h
 have hf:=(r6 hs).1
 unfold vX
 rw[K8,if_pos hf,af]
 dsimp only
 simp only[K6 _ 21 (by omega),K6 _ 36 (by omega),K6 _ 12 (by omega),af,j3]
 have bl:=hs
 unfold iQ at bl
 rw[ai (by simp;omega),oX,af,ai (by simp[hc.1]),oX,af,ai (by simp[hc.2.1]),AN hc.1,af,AN hc.2.1,af,af]
 exact congrArg some (decide_eq_true hc.2.2)
theorem ag6 (n lo hi:Int):BD (n,lo,hi)=some (decide (lo≤n∧n≤hi)):=lT n lo hi
theorem V7 {p:Part} (h:eM p):BC p=some true:=by
 obtain⟨_,_,hs,hc⟩:=(nk p).1 h
 have bl:=hs
 unfold iQ at bl
 unfold BC
 rw[tO,af,tO,af,aJ (by omega),aJ (by omega),aJ (by omega)]
 simp only[ag6,af,vu]
 rw[ak (by simp[hc.1,hc.2.1];omega),mw hc.1,af,mw hc.2.1,af]
 exact congrArg some (decide_eq_true hc.2.2)
def j6 (p:Part) (key:Int):Interval:=rI key (cQ p.shift)
def nW (p:Part) (key:Int):Int:=A7 key (cQ p.shift)
theorem oZ {p:Part} (h:eM p):iQ p.shift:=((nk p).1 h).2.2.1
theorem acg {p:Part} (h:eM p) {key:Int} (hk:dS key):FK (p,key)=some (nW p key,0):=by
 unfold FK
 dsimp only
 rw[EH h,af,ak (c:= !true) rfl,FH (r6 (oZ h)).1,af,Lk hk (r6 (oZ h)).2,af]
 rfl
theorem V8 {p:Part} (h:eM p) {key:Int} (hk:dS key):BE (p,key)=some (nW p key,j6 p key):=by
 unfold BE
 dsimp only
 rw[VV (r6 (oZ h)).1,af,agN hk (r6 (oZ h)).2,af]
 rfl
theorem ag4 {p:Part} (h:eM p) {key:Int} (hk:dS key):Gb (p,key)=some (nW p key,0):=by
 unfold Gb
 dsimp only
 rw[V7 h,af,ak (c:= !true) rfl,MY,af,af,ak (by simp[hk]),V8 h hk,af]
theorem ach {p:Part} (h:eM p) {key:Int} (hk:dS key) (x:aE):FL (p,key,x)=some (e8 x (j6 p key)):=by
 unfold FL
 dsimp only
 rw[EH h,af,ak (c:= !true) rfl,FH (r6 (oZ h)).1,af,Lk hk (r6 (oZ h)).2,af]
 dsimp only
 rw[ak (by simp),af,ak (by simp),af]
 dsimp only
 rw[ak (c:= !true) rfl,oX,af,af]
 dsimp only
 by_cases hx:bZ x
 ·rw[ak (by simp[hx]),Vx,af];rfl
 rw[ai (by simp[hx])];unfold e8;rw[if_neg (fun h=>hx h.1)]
theorem Tb {p:Part} (h:eM p) {key:Int} (hk:dS key) (x:aE):Bh (p,key,x)=some (e8 x (cQ (j6 p key))):=by
 unfold Bh
 dsimp only
 rw[EH h,af,ak (c:= !true) rfl,FH (r6 (oZ h)).1,af,Lk hk (r6 (oZ h)).2,af]
 dsimp only
 rw[ak (by simp),af,ak (by simp),af]
 dsimp only
 rw[ak (c:= !true) rfl,oX,af,af]
 dsimp only
 by_cases hx:bZ x
 ·rw[ak (by simp[hx]),FH (i:=⟨(rI key (cQ p.shift)).steps,(rI key (cQ p.shift)).bG⟩) (L5 hk (oZ h)).1,af]
  dsimp only
  rw[ak (by simp),Vx,af];rfl
 rw[ai (by simp[hx])];unfold e8;rw[if_neg (fun h=>hx h.1)]
theorem ag5 {p:Part} (h:eM p) {key:Int} (hk:dS key) (x:aE):Gc (p,key,x)=some (e8 x (cQ (j6 p key))):=by
 unfold Gc
 dsimp only
 rw[V7 h,af,tO,af,ak (c:= !true) rfl,MY,af,ak (by simp[hk]),af]
 by_cases hx:bZ x
 ·rw[ak (by simp[hx])]
  unfold Mz
  dsimp only
  rw[V8 h hk,af,af,show yf (nW p key,j6 p key).2=some (cQ (j6 p key),0) from VV (L5 hk (oZ h)).1,af,agL,af]
 rw[ai (by simp[hx])];unfold e8;rw[if_neg (fun h=>hx h.1)]
theorem acf {p:Part} (h:eM p) {x:aE} (hx:bZ x):FJ (p,x)=some (decide (num p.low≤num x∧num x≤num p.high),0):=by
 obtain⟨_,_,hs,hc⟩:=(nk p).1 h
 unfold FJ
 dsimp only
 rw[EH h,af,ak (c:= !true) rfl,oX,af,af,ak (by simp[hx]),AN hx,af,AN hc.1,af,AN hc.2.1,af]
 have:=lT (num x) (num p.low) (num p.high)
 by_cases h1:num p.low≤num x
 ·rw[ai (by simp[h1]),af];simp[h1]
 rw[ak (by simp[h1]),af];simp[h1]
end Go.Proofs.YtfhkmedbfiphbaaGreatDoor
namespace Go.Proofs.YtfhkmedbfiphbaaGreatDoor
open Go Go.aj Go.Sy
attribute [local instance] cD dh
def tk (q:Rat):Int:=if cF q then ew q else -1
def ht (p:aE):Int:=if bZ p then num p else 0
def wK (w:Written):List Int:=[tk w.start,w.bm,ht w.aM,w.id]
theorem XU (w:Written):(wK w).length=4:=rfl
theorem CY (x y:Int):vW (x,y)=some (kI x y):=by
 unfold vW FI kI
 dsimp only
 rw[af,af,ak (by simp),ak (by simp)]
 simp only[vr,decide_eq_true_eq]
 split
 ·rfl
 split<;>rfl
theorem XS (w:Written):BP w=some (ht w.aM):=by
 unfold BP ht
 rw[Be,af]
 split<;>rfl
theorem aja (a b:Written):BO (a,b)=some (eD [kI (tk a.start) (tk b.start),kI a.bm b.bm,kI (ht a.aM) (ht b.aM),kI a.id b.id]):=by
 unfold BO
 dsimp only
 rw[NO,af,NO,af,CY,af,CY,af,XS,af,XS,af,CY,af,CY,af,OK _ (by simp),af]
 rfl
theorem aaK (a b c d x y z u:Int):eD [kI a x,kI b y,kI c z,kI d u] < 0↔eD [a - x,b - y,c - z,d - u] < 0:=by
 have h:∀ m n:Int,(kI m n=0↔m - n=0)∧(kI m n < 0↔m - n < 0):=by
  intro m n
  unfold kI
  split
  ·omega
  split<;>omega
 simp only[eD]
 have h1:=h a x
 have h2:=h b y
 have h3:=h c z
 have h4:=h d u
 by_cases e1:a - x=0
 ·rw[if_pos (h1.1.2 e1),if_pos e1]
  by_cases e2:b - y=0
  ·rw[if_pos (h2.1.2 e2),if_pos e2]
   by_cases e3:c - z=0
   ·rw[if_pos (h3.1.2 e3),if_pos e3]
    by_cases e4:d - u=0
    ·rw[if_pos (h4.1.2 e4),if_pos e4]
    rw[if_neg (fun h=>e4 (h4.1.1 h)),if_neg e4];exact h4.2
   rw[if_neg (fun h=>e3 (h3.1.1 h)),if_neg e3];exact h3.2
  rw[if_neg (fun h=>e2 (h2.1.1 h)),if_neg e2];exact h2.2
 rw[if_neg (fun h=>e1 (h1.1.1 h)),if_neg e1];exact h1.2
theorem ajb (a b:Written):∃ z,BO (a,b)=some z∧(z < 0↔bM wK a b < 0):=⟨_,aja a b,aaK _ _ _ _ _ _ _ _⟩
theorem acD {l:List Written} (hl:l.length≤1000000000):Gx (l,())=some (py (fun a b=> !decide (bM wK b a < 0)) l):=by
 unfold Gx
 dsimp only
 rw[aJ (by omega),aeO (fun a b=> !decide (bM wK b a < 0)) (fun k a b h1 h2=>by
  have hk:=bU h2
  obtain⟨z,hz,kU⟩:=ajb b a
  rw[ai (by simp<;>omega),show(k:Int)+1=((k+1:Nat):Int) from rfl,aX (aW h2),aJ (by omega),show((k+1:Nat):Int) - 1=(k:Int) by omega,aX (aW h1),hz,af]
  by_cases h:bM wK b a < 0
  ·rw[ai (by simpa using kU.2 h)];simp[h]
  rw[ak (by simpa using fun hh=>h (kU.1 hh)),aJ (by omega)];simp[h]) (fun z hz=>by rw[ak (by simp<;>omega)])]
 cases py (fun a b=> !decide (bM wK b a < 0)) l<;>rfl
def eN (len:Rat) (w:Written):Prop:=(1≤w.id∧w.id≤1000000)∧(0≤w.bm∧w.bm≤9)∧(0≤w.bH∧w.bH≤20)∧bZ w.aM∧cF w.start∧cF w.length∧0 < ew w.length∧ew w.start+ew w.length≤ew len
instance (len:Rat) (w:Written):Decidable (eN len w):=inferInstanceAs (Decidable (_∧_∧_∧_∧_∧_∧_∧_))
theorem ajc (n lo hi:Int):BS (n,lo,hi)=some (decide (lo≤n∧n≤hi)):=lT n lo hi
theorem ahb (n lo hi:Int):BH (n,lo,hi)=some (decide (lo≤n∧n≤hi)):=lT n lo hi
theorem ai8 {len:Rat} (hl:cF len) (w:Written):BN (w,len)=some (decide (eN len w)):=by
 unfold BN
 dsimp only
 simp only[ajc,af,j3,NO,oX]
 by_cases h1:cF w.start
 ·by_cases h2:cF w.length
  ·have t1:=mE h1
   have t2:=mE h2
   rw[if_pos h1,if_pos h2,if_pos hl,aJ (by omega)]
   simp only[j3]
   refine mC ?_
   unfold eN
   simp[h1,h2,and_assoc,t1]
  rw[if_pos h1,if_neg h2]
  rw[ak (c:=aA 0 (-1)) (by simp)]
  have:¬ eN len w:=fun h=>h2 h.2.2.2.2.2.1
  rw[decide_eq_false this]
  simp only[vr]
  repeat' split
  all_goals rfl
 rw[if_neg h1]
 have:¬ eN len w:=fun h=>h1 h.2.2.2.2.1
 rw[decide_eq_false this,ak (c:=leI 0 (-1)) (by simp)]
 simp only[vr]
 repeat' split
 all_goals rfl
theorem M1 {len:Rat} (hl:cF len) (w:Written):yl (w,len)=some (decide (eN len w)):=by
 unfold yl
 dsimp only
 simp only[ahb,af,j3,tP,tO]
 by_cases h1:cF w.start
 ·by_cases h2:cF w.length
  ·have t1:=mE h1
   have t2:=mE h2
   rw[if_pos h1,if_pos h2,if_pos hl,aJ (by omega)]
   simp only[j3]
   refine mC ?_
   unfold eN
   simp[h1,h2,and_assoc,t1]
  rw[if_pos h1,if_neg h2]
  rw[ak (c:=aA 0 (-1)) (by simp)]
  have:¬ eN len w:=fun h=>h2 h.2.2.2.2.2.1
  rw[decide_eq_false this]
  simp only[vr]
  repeat' split
  all_goals rfl
 rw[if_neg h1]
 have:¬ eN len w:=fun h=>h1 h.2.2.2.2.1
 rw[decide_eq_false this,ak (c:=leI 0 (-1)) (by simp)]
 simp only[vr]
 repeat' split
 all_goals rfl
theorem V9 {la lb:Rat} {a b:Written} (ha:eN la a) (hb:eN lb b):wg (a,b)=some (decide (bM wK a b < 0)):=by
 unfold wg
 dsimp only
 rw[tP,af,mw ha.2.2.2.1,af,tP,af,mw hb.2.2.2.1,af]
 have e:∀ {l:Rat} {w:Written},eN l w→((if cF w.start then ew w.start else -1)::(w.bm::(num w.aM::(w.id::([]:List Int)))))=wK w:=by
  intro l w h
  unfold wK tk ht
  rw[if_pos h.2.2.2.1]
 rw[e ha,e hb,Ov (x:=wK a) (y:=wK b) rfl (by rw[XU];omega)]
 unfold Bc bM
 by_cases h:eD ((wK a).zipWith (· - ·) (wK b))=0
 ·rw[if_pos h,h];rfl
 rw[if_neg h];rfl
theorem GN {l:List Written} (hl:l.length≤1000000000) (id:Int):rR (l,id)=some (l.any fun w=>decide (w.id=id)):=by
 unfold rR
 dsimp only
 rw[xY (l:=l) (fun w=>decide (w.id=id)) true (fun k x hx=>by
  have hk:=bU hx
  rw[ai (by simpa using hk),aX (aW hx)]
  by_cases h:x.id=id
  ·rw[ai (by simp[h])];simp[h]
  rw[ak (by simp[h]),aJ (by omega)];simp[h]) (by rw[ak (by simp)])]
 cases l.any fun w=>decide (w.id=id)<;>rfl
end Go.Proofs.YtfhkmedbfiphbaaGreatDoor
namespace Go.Proofs.YtfhkmedbfiphbaaGreatDoor
open Go Go.aj Go.Sy
attribute [local instance] cD dh
def ajs:Part:=⟨0,0,0,0,0,⟨0,0⟩,⟨0,0,0⟩,⟨0,0,0⟩⟩
def partOf (s:Score) (id:Int):Option Part:=s.parts.find? fun p=>decide (p.id=id)
theorem NM {s:Score} (hl:s.parts.length≤1000000) (id:Int):yq (s,id)=some (match partOf s id with | some p=>(⟨p⟩,true) | none=>(⟨ajs⟩,false)):=by
 unfold yq partOf
 dsimp only
 have e:Gw (s.parts,id)=some (ix s.parts fun p=>decide (p.id=id)):=by
  unfold Gw
  dsimp only
  rw[vG (l:=s.parts) (fun p=>decide (p.id=id)) (fun k x hx=>by
   have hk:=bU hx
   rw[ai (by simpa using hk),aX (aW hx)]
   unfold MN
   rw[af]
   by_cases h:x.id=id
   ·rw[ai (by simp[h])];simp[h]
   rw[ak (by simp[h]),aJ (by omega)];simp[h]) (by rw[ak (by simp)])]
  exact xK _ _
 rw[e,af]
 rcases mq s.parts fun p=>decide (p.id=id) with ⟨h1,h2⟩ | ⟨k,p,h1,h2,h3,h4⟩
 ·rw[h1,h2,ai (by simp)];rfl
 rw[h2,h3,ak (by simp),aX (aW h1)]
theorem XR {p:Part} (hp:eM p) {b:aD} (hk:dS b.key) (l:List Written):BQ (⟨p⟩,b,l)=some ⟨b.id,nW p b.key,b.length,l⟩:=by
 unfold BQ
 dsimp only
 rw[acg hp hk,af]
def nJ (p:Part) (b:aD) (m:br):Prop:=m.aZ=b.id∧m.key=nW p b.key∧m.length=b.length
instance (p:Part) (b:aD) (m:br):Decidable (nJ p b m):=inferInstanceAs (Decidable (_∧_∧_))
def j8 (p:Part) (x:br×aD):Bool:=decide (nJ p x.2 x.1)&&py (fun a b=> !decide (bM wK b a < 0)) x.1.notes&&x.1.notes.all fun w=>decide (eN x.1.length w)
def c6 (v:View):List Written:=v.bg.flatMap br.notes
def rV (z:List (Int×Bool)) (l:List Written):List (Int×Bool):=l.foldl (fun m w=>bz m w.id true) z
theorem acx {m:br} (hl:cF m.length) (hn:m.notes.length≤1000000) (z:List (Int×Bool)):aU (ρ:=(List (Int×Bool))⊕((Int×(Int×(List (Int×Bool))))⊕((Int×(List (Int×Bool)))⊕Bool))) (fun v9:(Int×(List (Int×Bool)))=>ab (aA v9.1 (m.notes.length:Int)) (aa (av m.notes v9.1) fun v10=>aa (BN (v10,m.length)) fun v11=>ab (!v11) (some (.inr (.inr (.inr (.inr false))))) (ar (az (v9.1+1)) <| some (.inl ((v9.1+1),(bz v9.2 v10.id true))))) (some (.inr (.inl v9.2)))) (0,z) =
  some (if(m.notes.all fun w=>decide (eN m.length w))=true then .inl (rV z m.notes) else .inr (.inr (.inr false))):=by
 rw[fg (σ:=List (Int×Bool)) (st:=fun z k=>(k,z)) (l:=m.notes) (fun z x=>if decide (eN m.length x)=true then .inl (bz z x.id true) else .inr (.inr (.inr (.inr false)))) (fun z=> .inl z) (fun _ _=>True) (fun k x z hx _=>by
  have hk:=bU hx
  dsimp only
  rw[ai (by simpa using hk),aX (aW hx),ai8 hl,af]
  by_cases h:eN m.length x
  ·rw[ak (by simp[h]),aJ (by omega)];simp[h]
  rw[ai (by simp[h])];simp[h]) (fun _ _ _ _ _ _ _=>trivial) (fun z _=>by dsimp only;rw[ak (by simp)]) z trivial,DA]
 rfl
theorem oA {α β:Type} {l:List α} {r:List β} {k:Nat} {x:α×β} (h:(l.zip r)[k]?=some x):l[k]?=some x.1∧r[k]?=some x.2:=List.getElem?_zip_eq_some.1 h
theorem Rt {α β σ:Type} (g:σ→α→σ):∀ (l:List α) (r:List β) (z:σ),l.length≤r.length→(l.zip r).foldl (fun z x=>g z x.1) z=l.foldl g z
 | [],_,z,_=>rfl
 | x::l,[],z,h=>by simp at h
 | x::l,y::r,z,h=>by
  rw[List.zip_cons_cons,List.foldl_cons,List.foldl_cons]
  exact Rt g l r _ (by simpa using h)
theorem aaM (ms:List br):∀ (n:Int) (z:List (Int×Bool)),ms.foldl (fun(z:Int×List (Int×Bool)) m=>(z.1+(m.notes.length:Int),rV z.2 m.notes)) (n,z)=(n+((ms.flatMap br.notes).length:Int),rV z (ms.flatMap br.notes)):=by
 induction ms with
 | nil=>intro n z;simp[rV]
 | cons m ms ih=>
  intro n z
  rw[List.foldl_cons,ih,List.flatMap_cons,List.length_append]
  unfold rV
  rw[List.foldl_append]
  congr 1
  simp only[Int.natCast_add];omega
def ej (s:Score) (v:View):Prop:=cL s∧v.bg.length=s.bars.length∧(∃ p,partOf s v.part=some p∧((v.bg.zip s.bars).all (j8 p))=true)∧(c6 v).length≤20000∧((c6 v).map Written.id).Nodup
theorem Ug:∀ {l:List Nat} {n:Nat},n∈l→n≤l.sum
 | [],_,h=>by cases h
 | x::l,n,h=>by
  rw[List.sum_cons]
  rcases List.mem_cons.1 h with rfl | h
  ·omega
  have:=Ug h;omega
theorem pZ {v:View} {m:br} (h:m∈v.bg):m.notes.length≤(c6 v).length:=by
 unfold c6
 rw[List.length_flatMap]
 exact Ug (List.mem_map.2 ⟨m,h,rfl⟩)
theorem od {s:Score} (hs:cL s) {id:Int} {p:Part} (h:partOf s id=some p):eM p∧p∈s.parts∧p.id=id:=by
 unfold partOf at h
 have h1:=List.mem_of_find?_eq_some h
 exact⟨hs.2.2.1.2.1 p h1,h1,by simpa using List.find?_some h⟩
theorem qG {s:Score} (hs:cL s) {b:aD} (h:b∈s.bars):l4 b:=hs.2.1.2.1 b h
open Classical in
theorem XO {s:Score} {v:View} (hb:s.bars.length≤1048576) (hv:(c6 v).length≤1000000):BM (s,v)=some (decide (ej s v)):=by
 unfold BM
 dsimp only
 rw[B8 hb,af]
 by_cases h1:cL s
 ·rw[ak (by simp[h1]),af]
  by_cases h2:v.bg.length=s.bars.length
  ·have zU:=h1.2.1.1.2
   have abP:=h1.2.2.1.1.2
   rw[ak (by simp[h2]),NM (by omega),af]
   cases hp:partOf s v.part with
   | none=>
    dsimp only
    rw[ai (c:= !false) rfl,decide_eq_false]
    rintro⟨_,_,⟨p,h,_⟩,_⟩
    rw[hp] at h;cases h
   | some p=>
    have dR:=(od h1 hp).1
    dsimp only
    rw[ak (c:= !true) rfl]
    have hlen:(v.bg.zip s.bars).length=v.bg.length:=by rw[List.length_zip];omega
    rw[fg (σ:=Int×List (Int×Bool)) (st:=fun z k=>(z.1,k,z.2)) (l:=v.bg.zip s.bars) (fun z x=>if j8 p x=true then .inl (z.1+(x.1.notes.length:Int),rV z.2 x.1.notes) else .inr (.inr false)) (fun z=> .inl z) (fun k z=>0≤z.1∧z.1≤1000000*(k:Int)) (fun k x z hx hz=>by
     obtain⟨g1,g2⟩:=oA hx
     have hk:=bU g1
     have hm:=List.mem_of_getElem? g1
     have kN:=qG h1 (List.mem_of_getElem? g2)
     have hn:=pZ hm
     dsimp only
     rw[ai (by simpa using hk),aX (aW g1),aX (aW g2),XR dR kN.2.2.2,af,acD (by omega),af,OA,afQ,af]
     by_cases hh:nJ p x.2 x.1∧py (fun a b=> !decide (bM wK b a < 0)) x.1.notes=true
     ·obtain⟨⟨e1,e2,e3⟩,e4⟩:=hh
      rw[ak (by simp[e1,e2,e3,e4]),acx (by rw[e3];exact kN.2.1) (by omega)]
      by_cases hw:(x.1.notes.all fun w=>decide (eN x.1.length w))=true
      ·have cr:j8 p x=true:=by unfold j8;rw[hw,e4,decide_eq_true (p:=nJ p x.2 x.1) ⟨e1,e2,e3⟩];rfl
       rw[if_pos hw,if_pos cr,fQ,aJ (by omega),aJ (by omega)];rfl
      have cr:¬ j8 p x=true:=by unfold j8;rw[Bool.not_eq_true] at hw;rw[hw];simp
      rw[if_neg hw,if_neg cr,iK]
     ·have cr:¬ j8 p x=true:=fun h=>hh (by
       unfold j8 at h
       simp only[Bool.and_eq_true,decide_eq_true_eq] at h
       exact h.1)
      rw[if_neg cr,ai (by
       refine Classical.byContradiction fun hf=>hh ?_
       simp only[Bool.not_eq_true,Bool.or_eq_false_iff,Bool.not_eq_false',decide_eq_true_eq] at hf
       exact⟨⟨hf.1.1.1,hf.1.1.2,hf.1.2⟩,hf.2⟩)]) (fun k x z z' hx hz hf=>by
     obtain⟨g1,g2⟩:=oA hx
     have hn:=pZ (List.mem_of_getElem? g1)
     split at hf
     ·injection hf with hf;subst hf;dsimp only;omega
     cases hf) (fun z hz=>by dsimp only;rw[hlen,ak (by simp)]) (0,[]) ⟨by simp,by simp⟩,DA]
    by_cases bA:(v.bg.zip s.bars).all (j8 p)=true
    ·rw[if_pos bA,fQ,Rt (fun(z:Int×List (Int×Bool)) (m:br)=>(z.1+(m.notes.length:Int),rV z.2 m.notes)) _ _ _ (by omega),aaM]
     dsimp only
     obtain⟨f1,f2⟩:=Rr Written.id (fun _=>true) (v.bg.flatMap br.notes) []
     rw[show((0:Int)+((v.bg.flatMap br.notes).length:Int))=((c6 v).length:Int) by unfold c6;omega]
     by_cases h5:(c6 v).length≤20000
     ·rw[ai (decide_eq_true (by omega)),af]
      refine mC ?_
      rw[decide_eq_true_eq]
      have JQ:((rV [] (c6 v)).length:Int)=((c6 v).length:Int)↔((c6 v).map Written.id).Nodup:=by
       unfold rV c6
       rw[Int.natCast_inj]
       simp only[List.length_nil,Nat.zero_add] at f2
       rw[f2]
       exact⟨fun h=>h.1,fun h=>⟨h,fun _ _=>rfl⟩⟩
      refine(JQ).trans ⟨fun h=>⟨h1,h2,⟨p,hp,bA⟩,h5,h⟩,fun h=>h.2.2.2.2⟩
     rw[ak (decide_eq_false (by omega)),af,decide_eq_false (fun h=>h5 h.2.2.2.1)]
    rw[if_neg bA,iK,decide_eq_false]
    rintro⟨_,_,⟨q,hq,h⟩,_⟩
    rw[hp] at hq
    injection hq with hq;subst hq
    exact bA h
  rw[ai (by simp;omega),decide_eq_false (fun h=>h2 h.2.1)]
 rw[ai (by simp[h1]),af,ai rfl,decide_eq_false (fun h=>h1 h.1)]
end Go.Proofs.YtfhkmedbfiphbaaGreatDoor
namespace Go.Proofs.YtfhkmedbfiphbaaGreatDoor
open Go Go.aj Go.Sy
attribute [local instance] cD dh
theorem ag8 {p:Part} (hp:eM p) {b:aD} (hk:dS b.key):Gf (p,b)=some ⟨b.id,nW p b.key,b.length,[]⟩:=by
 unfold Gf
 dsimp only
 rw[ag4 hp hk,af]
theorem Wc (a b:br):BI (a,b)=some (decide (a.aZ=b.aZ∧a.key=b.key∧a.length=b.length)):=by
 unfold BI
 dsimp only
 simp only[af,j3,OA]
 exact mC (by simp)
def kY (len:Rat) (seen:List Written) (ws:List Written) (k:Nat) (w:Written):Bool:=decide (eN len w) && !((seen++ws.take k).any fun x=>decide (x.id=w.id))&&decide ((seen++ws.take k).length < 20000)&&(match k with | 0=>true | j+1=>match ws[j]? with | some a=>decide (bM wK a w < 0) | none=>true)
def ng (len:Rat) (seen:List Written) (ws:List Written):Bool:=(List.range ws.length).all fun k=>match ws[k]? with | some w=>kY len seen ws k w | none=>true
theorem wD {α:Type} {l:List α} {k:Nat} {x:α} (h:l[k]?=some x):l.take (k+1)=l.take k++[x]:=by rw[List.take_add_one,h];rfl
theorem acw {m:br} (hl:cF m.length) {seen:List Written} (hs:seen.length≤20000) (hn:m.notes.length≤1000000) :
  aU (ρ:=(List Written)⊕((Int×(List Written))⊕(Unit⊕Bool))) (fun v12:(Int×(List Written))=>ab (aA v12.1 (m.notes.length:Int)) (aa (av m.notes v12.1) fun mH=>aa (yl (mH,m.length)) fun ey=>aa (av m.notes v12.1) fun mI=>aa (rR (v12.2,mI.id)) fun pj=>aa (ab (!ey) (some true) (ab pj (some true) (some (leI 20000 (v12.2.length:Int))))) fun(v17:Bool)=>ab v17 (some (.inr (.inr (.inr (.inr false))))) (cw (ab (aA 0 v12.1) (ar (az (v12.1 - 1)) <| aa (av m.notes (v12.1 - 1)) fun fj=>aa (av m.notes v12.1) fun cY=>aa (wg (fj,cY)) fun v20=>ab (!v20) (some (.inr (.inr (.inr (.inr (.inr false)))))) (some (.inl ()))) (some (.inl ()))) fun(fj:Unit)=>aa (av m.notes v12.1) fun cY=>ar (decide ((List.append v12.2 (cY::([]:List Written))).length*80≤140737488355328∧(List.append v12.2 (cY::([]:List Written))).length≤9223372036854775807)) <| ar (az (v12.1+1)) <| some (.inl ((v12.1+1),(List.append v12.2 (cY::([]:List Written))))))) (some (.inr (.inl v12.2)))) (0,seen) =
  some (if ng m.length seen m.notes=true then .inl (seen++m.notes) else .inr (.inr (.inr false))):=by
 have key:∀ (
        n k:Nat),k+n=m.notes.length→(∀ j w,j < k→m.notes[j]?=some w→kY m.length seen m.notes j w=true)→aU (ρ:=(List Written)⊕((Int×(List Written))⊕(Unit⊕Bool))) (fun v12:(Int×(List Written))=>ab (aA v12.1 (m.notes.length:Int)) (aa (av m.notes v12.1) fun mH=>aa (yl (mH,m.length)) fun ey=>aa (av m.notes v12.1) fun mI=>aa (rR (v12.2,mI.id)) fun pj=>aa (ab (!ey) (some true) (ab pj (some true) (some (leI 20000 (v12.2.length:Int))))) fun(v17:Bool)=>ab v17 (some (.inr (.inr (.inr (.inr false))))) (cw (ab (aA 0 v12.1) (ar (az (v12.1 - 1)) <| aa (av m.notes (v12.1 - 1)) fun fj=>aa (av m.notes v12.1) fun cY=>aa (wg (fj,cY)) fun v20=>ab (!v20) (some (.inr (.inr (.inr (.inr (.inr false)))))) (some (.inl ()))) (some (.inl ()))) fun(fj:Unit)=>aa (av m.notes v12.1) fun cY=>ar (decide ((List.append v12.2 (cY::([]:List Written))).length*80≤140737488355328∧(List.append v12.2 (cY::([]:List Written))).length≤9223372036854775807)) <| ar (az (v12.1+1)) <| some (.inl ((v12.1+1),(List.append v12.2 (cY::([]:List Written))))))) (some (.inr (.inl v12.2)))) ((k:Int),seen++m.notes.take k) =
   some (if ng m.length seen m.notes=true then .inl (seen++m.notes) else .inr (.inr (.inr false))):=by
  intro n
  induction n with
  | zero=>
   intro k hk bA
   have:k=m.notes.length:=by omega
   subst this
   have gO:ng m.length seen m.notes=true:=List.all_eq_true.2 fun j hj=>by
    have hj:=List.mem_range.1 hj
    have e:m.notes[j]?=some m.notes[j]:=List.getElem?_eq_getElem hj
    rw[e];exact bA j _ hj e
   rw[List.take_length,if_pos gO]
   refine kv ?_
   dsimp only
   rw[ak (by simp)]
  | succ n ih=>
   intro k hk bA
   have aN:k < m.notes.length:=by omega
   have hx:m.notes[k]?=some m.notes[k]:=List.getElem?_eq_getElem aN
   generalize m.notes[k]=w at hx
   have R2:kY m.length seen m.notes k w=false→ng m.length seen m.notes=false:=fun h=>by
    rw[←Bool.not_eq_true]
    intro hc
    have:=List.all_eq_true.1 hc k (List.mem_range.2 aN)
    rw[hx] at this
    dsimp only at this
    rw[h] at this;cases this
   have hlen:(seen++m.notes.take k).length≤1020000:=by rw[List.length_append,List.length_take];omega
   by_cases h1:eN m.length w∧((seen++m.notes.take k).any fun x=>decide (x.id=w.id))=false∧(seen++m.notes.take k).length < 20000
   ·obtain⟨g1,g2,g3⟩:=h1
    by_cases h2:∀ a,(0 < k)→m.notes[k - 1]?=some a→bM wK a w < 0
    ·have cr:kY m.length seen m.notes k w=true:=by
      unfold kY
      rw[decide_eq_true g1,g2,decide_eq_true g3]
      cases k with
      | zero=>rfl
      | succ j=>
       dsimp only
       cases ha:m.notes[j]? with
       | none=>rfl
       | some a=>dsimp only;rw[decide_eq_true (h2 a (by omega) (by simpa using ha))];rfl
     rw[oQ (z':=(((k+1:Nat):Int),seen++m.notes.take (k+1))) (by
      dsimp only
      rw[ai (decide_eq_true (by omega)),aX (aW hx),M1 hl,af,aX (aW hx),GN (by omega),af,ak (by simp[g1]),ak g2,af,ak (by rw[decide_eq_false_iff_not];omega)]
      have hj:(ab (aA 0 (k:Int)) (ar (az ((k:Int) - 1)) <| aa (av m.notes ((k:Int) - 1)) fun fj=>aa (av m.notes (k:Int)) fun cY=>aa (wg (fj,cY)) fun v20=>ab (!v20) (some (.inr (.inr (.inr (.inr (.inr false))))):Option (Unit⊕((Int×(List Written))⊕((List Written)⊕((Int×(List Written))⊕(Unit⊕Bool)))))) (some (.inl ()))) (some (.inl ())))=some (.inl ()):=by
       cases k with
       | zero=>rw[ak (by simp)]
       | succ j=>
        have ha:m.notes[j]?=some m.notes[j]:=List.getElem?_eq_getElem (by omega)
        generalize m.notes[j]=a at ha
        have KL:eN m.length a:=by
         have:=bA j a (by omega) ha
         unfold kY at this
         simp only[Bool.and_eq_true,decide_eq_true_eq] at this
         exact this.1.1.1
        rw[ai (decide_eq_true (by omega)),aJ (by omega),show((j+1:Nat):Int) - 1=(j:Int) by omega,aX (aW ha),aX (aW hx),V9 KL g1,af,ak (by simp[h2 a (by omega) (by simpa using ha)])]
      rw[hj,fQ,aX (aW hx),cq (decide_eq_true (by
       show(seen++m.notes.take k++[w]).length*80≤_∧(seen++m.notes.take k++[w]).length≤_
       rw[List.length_append];simp only[List.length_cons,List.length_nil];omega)),aJ (by omega),wD hx]
      show some (Sum.inl (_,(seen++m.notes.take k)++[w]))=_
      rw[List.append_assoc];rfl)]
     refine ih (k+1) (by omega) fun j w' hj eE=>?_
     by_cases uT:j=k
     ·subst uT
      rw[hx] at eE
      injection eE with eE;subst eE;exact cr
     exact bA j w' (by omega) eE
    have hex:∃ a,0 < k∧m.notes[k - 1]?=some a∧¬ bM wK a w < 0:=by
     refine Classical.byContradiction fun hc=>h2 fun a ha hb=>?_
     refine Classical.byContradiction fun hn=>hc ⟨a,ha,hb,hn⟩
    obtain⟨a,hk0,ha,gN⟩:=hex
    obtain⟨j,rfl⟩:∃ j,k=j+1:=⟨k - 1,by omega⟩
    have ha:m.notes[j]?=some a:=by simpa using ha
    have bS:kY m.length seen m.notes (j+1) w=false:=by
     unfold kY
     dsimp only
     rw[ha]
     dsimp only
     rw[decide_eq_false gN,Bool.and_false]
    have KL:eN m.length a:=by
     have:=bA j a (by omega) ha
     unfold kY at this
     simp only[Bool.and_eq_true,decide_eq_true_eq] at this
     exact this.1.1.1
    rw[R2 bS]
    refine kv ?_
    dsimp only
    rw[ai (decide_eq_true (by omega)),aX (aW hx),M1 hl,af,aX (aW hx),GN (by omega),af,ak (by simp[g1]),ak g2,af,ak (by rw[decide_eq_false_iff_not];omega)]
    rw[ai (decide_eq_true (by omega)),aJ (by omega),show((j+1:Nat):Int) - 1=(j:Int) by omega,aX (aW ha),aX (aW hx),V9 KL g1,af,ai (by simp[gN]),iK]
    rfl
   have bS:kY m.length seen m.notes k w=false:=by
    rw[←Bool.not_eq_true]
    intro hc
    unfold kY at hc
    simp only[Bool.and_eq_true,decide_eq_true_eq,Bool.not_eq_true'] at hc
    exact h1 ⟨hc.1.1.1,hc.1.1.2,hc.1.2⟩
   rw[R2 bS]
   refine kv ?_
   dsimp only
   rw[ai (decide_eq_true (by omega)),aX (aW hx),M1 hl,af,aX (aW hx),GN (by omega),af]
   have Ko:(ab (!decide (eN m.length w)) (some true) (ab ((seen++m.notes.take k).any fun x=>decide (x.id=w.id)) (some true) (some (leI 20000 ((seen++m.notes.take k).length:Int)))))=some true:=by
    by_cases q1:eN m.length w
    ·rw[ak (by simp[q1])]
     cases q2:(seen++m.notes.take k).any fun x=>decide (x.id=w.id)
     ·rw[ak rfl]
      refine congrArg some (decide_eq_true ?_)
      have:¬ (seen++m.notes.take k).length < 20000:=fun h=>h1 ⟨q1,q2,h⟩
      omega
     rw[ai rfl]
    rw[ai (by simp[q1])]
   rw[Ko,af,ai rfl]
   rfl
 have:=key m.notes.length 0 (by omega) (fun j w hj=>by omega)
 rw[List.take_zero,List.append_nil] at this
 exact this
end Go.Proofs.YtfhkmedbfiphbaaGreatDoor
namespace Go.Proofs.YtfhkmedbfiphbaaGreatDoor
open Go Go.aj Go.Sy
attribute [local instance] cD dh
theorem Mc {len:Rat} {seen ws:List Written}:ng len seen ws=true↔(∀ w∈ws,eN len w)∧(∀ (k:Nat) a b,ws[k]?=some a→ws[k+1]?=some b→bM wK a b < 0)∧(∀ (k:Nat) w,ws[k]?=some w→((seen++ws.take k).any fun x=>decide (x.id=w.id))=false)∧(ws=[]∨(seen++ws).length≤20000):=by
 unfold ng
 rw[List.all_eq_true]
 have key:(∀ x∈List.range ws.length,(match ws[x]? with | some w=>kY len seen ws x w | none=>true)=true)↔∀ (k:Nat) w,ws[k]?=some w→kY len seen ws k w=true:=by
  constructor
  ·intro h k w hw
   have:=h k (List.mem_range.2 (bU hw))
   rw[hw] at this;exact this
  intro h k hk
  cases hw:ws[k]? with
  | none=>rfl
  | some w=>exact h k w hw
 refine Iff.trans key ?_
 constructor
 ·intro h
  have h':∀ (k:Nat) w,ws[k]?=some w→(eN len w∧((seen++ws.take k).any fun x=>decide (x.id=w.id))=false)∧(seen++ws.take k).length < 20000:=by
   intro k w hw
   have:=h k w hw
   unfold kY at this
   simp only[Bool.and_eq_true,decide_eq_true_eq,Bool.not_eq_true'] at this
   exact this.1
  refine⟨fun w hw=>?_,fun k a b ha hb=>?_,fun k w hw=>(h' k w hw).1.2,?_⟩
  ·obtain⟨k,hk⟩:=List.mem_iff_getElem?.1 hw
   exact(h' k w hk).1.1
  ·have:=h (k+1) b hb
   unfold kY at this
   dsimp only at this
   rw[ha] at this
   simp only[Bool.and_eq_true,decide_eq_true_eq] at this
   exact this.2
  cases hl:ws.length with
  | zero=>left;exact List.length_eq_zero_iff.1 hl
  | succ n=>
   right
   have e:ws[n]?=some ws[n]:=List.getElem?_eq_getElem (by omega)
   have:=(h' n _ e).2
   rw[List.length_append,List.length_take] at this
   rw[List.length_append];omega
 rintro⟨h1,h2,h3,h4⟩ k w hw
 have hk:=bU hw
 unfold kY
 rw[decide_eq_true (h1 w (List.mem_of_getElem? hw)),h3 k w hw,decide_eq_true (by
  rcases h4 with h4 | h4
  ·subst h4;simp at hk
  rw[List.length_append] at h4
  rw[List.length_append,List.length_take];omega)]
 cases k with
 | zero=>rfl
 | succ j=>
  dsimp only
  cases ha:ws[j]? with
  | none=>rfl
  | some a=>dsimp only;rw[decide_eq_true (h2 j a w ha hw)];rfl
theorem Tc {seen:List Written} (hs:(seen.map Written.id).Nodup) (ws:List Written):(∀ (k:Nat) w,ws[k]?=some w→((seen++ws.take k).any fun x=>decide (x.id=w.id))=false)↔((seen++ws).map Written.id).Nodup:=by
 constructor
 ·intro h
  rw[List.map_append,List.nodup_append]
  refine⟨hs,?_,?_⟩
  ·rw[←yx Written.id,List.pairwise_iff_getElem]
   intro i j hi hj cm
   have:=h j ws[j] (List.getElem?_eq_getElem hj)
   rw[List.any_eq_false] at this
   simpa using this ws[i] (List.mem_append.2 (.inr (List.mem_take_iff_getElem.2 ⟨i,by omega,rfl⟩)))
  intro a ha b hb e
  obtain⟨x,hx,rfl⟩:=List.mem_map.1 ha
  obtain⟨y,hy,rfl⟩:=List.mem_map.1 hb
  obtain⟨k,hk⟩:=List.mem_iff_getElem?.1 hy
  have:=h k y hk
  rw[List.any_eq_false] at this
  have:=this x (List.mem_append.2 (.inl hx))
  simp at this
  exact this e
 intro h k w hw
 rw[List.map_append,List.nodup_append] at h
 rw[List.any_eq_false]
 intro x hx he
 have he:x.id=w.id:=by simpa using he
 rcases List.mem_append.1 hx with hx | hx
 ·exact h.2.2 x.id (List.mem_map.2 ⟨x,hx,rfl⟩) w.id (List.mem_map.2 ⟨w,List.mem_of_getElem? hw,rfl⟩) he
 obtain⟨j,hj,rfl⟩:=List.mem_take_iff_getElem.1 hx
 have h2:=h.2.1
 rw[←yx Written.id,List.pairwise_iff_getElem] at h2
 have hk:=bU hw
 have e:ws[k]=w:=by rw[List.getElem?_eq_getElem hk] at hw;exact Option.some.inj hw
 have:=h2 j k (by omega) hk (by omega)
 rw[e] at this
 simp at this
 exact this he
theorem Xj {ws:List Written} (hn:(ws.map Written.id).Nodup):py (fun a b=> !decide (bM wK b a < 0)) ws=true↔∀ (k:Nat) a b,ws[k]?=some a→ws[k+1]?=some b→bM wK a b < 0:=by
 rw[Iy]
 have abK:∀ a b:Written,bM wK b a = - bM wK a b:=fun a b=>Dy (wK a) (wK b) rfl
 constructor
 ·intro h k a b ha hb
  have h1:=h k a b ha hb
  simp only[Bool.not_eq_true',decide_eq_false_iff_not] at h1
  refine Classical.byContradiction fun h2=>?_
  have h3:=Qs XU h2 h1
  unfold wK at h3
  simp only[List.cons.injEq] at h3
  rw[←yx Written.id] at hn
  have:=VT hn k a b ha hb
  simp at this
  exact this h3.2.2.2.1
 intro h k a b ha hb
 have h1:=h k a b ha hb
 have:=abK a b
 simp only[Bool.not_eq_true',decide_eq_false_iff_not]
 omega
def oq (p:Part):List (br×aD)→List Written→Bool
 | [],_=>true
 | x::l,z=>decide (nJ p x.2 x.1)&&ng x.1.length z x.1.notes&&oq p l (z++x.1.notes)
theorem Hy (p:Part):∀ (l:List (br×aD)) (z:List Written),(z.map Written.id).Nodup→z.length≤20000→(oq p l z=true↔l.all (j8 p)=true∧(z++l.flatMap fun x=>x.1.notes).length≤20000∧((z++l.flatMap fun x=>x.1.notes).map Written.id).Nodup)
 | [],z,h1,h2=>by simp[oq,h1,h2]
 | x::l,z,h1,h2=>by
  unfold oq
  rw[List.all_cons,List.flatMap_cons,←List.append_assoc]
  simp only[Bool.and_eq_true,decide_eq_true_eq]
  constructor
  ·rintro⟨⟨g1,g2⟩,g3⟩
   obtain⟨a1,a2,a3,a4⟩:=Mc.1 g2
   have hn:=(Tc h1 x.1.notes).1 a3
   have hlen:(z++x.1.notes).length≤20000:=by
    rcases a4 with a4 | a4
    ·rw[a4,List.append_nil];exact h2
    exact a4
   obtain⟨b1,b2,b3⟩:=(Hy p l _ hn hlen).1 g3
   have xB:(x.1.notes.map Written.id).Nodup:=by rw[List.map_append,List.nodup_append] at hn;exact hn.2.1
   refine⟨⟨?_,b1⟩,b2,b3⟩
   unfold j8
   simp only[Bool.and_eq_true,decide_eq_true_eq,List.all_eq_true]
   exact⟨⟨g1,(Xj xB).2 a2⟩,fun w hw=>a1 w hw⟩
  rintro⟨⟨g1,g2⟩,g3,g4⟩
  have hn:((z++x.1.notes).map Written.id).Nodup:=by rw[List.map_append,List.nodup_append] at g4;exact g4.1
  have hlen:(z++x.1.notes).length≤20000:=by rw[List.length_append] at g3;omega
  have xB:(x.1.notes.map Written.id).Nodup:=by rw[List.map_append,List.nodup_append] at hn;exact hn.2.1
  unfold j8 at g1
  simp only[Bool.and_eq_true,decide_eq_true_eq,List.all_eq_true] at g1
  exact⟨⟨g1.1.1,Mc.2 ⟨fun w hw=>g1.2 w hw,(Xj xB).1 g1.1.2,(Tc h1 _).2 hn,.inr hlen⟩⟩,(Hy p l _ hn hlen).2 ⟨g2,g3,g4⟩⟩
theorem Ro {ρ:Type} (p:Part) (r:ρ):∀ (l:List (br×aD)) (z:List Written),fu (fun(z:List Written) x=>if(decide (nJ p x.2 x.1)&&ng x.1.length z x.1.notes)=true then .inl (z++x.1.notes) else(.inr (.inr r):_⊕(Unit⊕ρ))) (fun _=> .inl ()) l z=if oq p l z=true then .inl () else .inr r
 | [],z=>rfl
 | x::l,z=>by
  have ih:=Ro p r l (z++x.1.notes)
  by_cases h:(decide (nJ p x.2 x.1)&&ng x.1.length z x.1.notes)=true
  ·have e:oq p (x::l) z=oq p l (z++x.1.notes):=by
    show(decide (nJ p x.2 x.1)&&ng x.1.length z x.1.notes&&oq p l (z++x.1.notes))=_
    rw[h,Bool.true_and]
   rw[e]
   simp only[fu]
   rw[if_pos h]
   exact ih
  have e:oq p (x::l) z=false:=by
   show(decide (nJ p x.2 x.1)&&ng x.1.length z x.1.notes&&oq p l (z++x.1.notes))=_
   rw[Bool.not_eq_true] at h
   rw[h,Bool.false_and]
  rw[e]
  simp only[fu]
  rw[if_neg h];rfl
open Classical in
theorem Wb {s:Score} {v:View} (hv:(c6 v).length≤1000000):BG (s,v)=some (decide (ej s v)):=by
 unfold BG
 dsimp only
 rw[GM,af]
 by_cases h1:cL s
 ·rw[ak (by simp[h1])]
  by_cases h2:v.bg.length=s.bars.length
  ·have zU:=h1.2.1.1.2
   have abP:=h1.2.2.1.1.2
   rw[af,ak (by simp[h2]),yy (by omega),af]
   rcases mq s.parts fun p=>decide (p.id=v.part) with ⟨g1,g2⟩ | ⟨j,p,g1,g2,g3,g4⟩
   ·rw[g2,ai (by simp),decide_eq_false]
    rintro⟨_,_,⟨p,h,_⟩,_⟩
    unfold partOf at h
    rw[g1] at h;cases h
   have hp:partOf s v.part=some p:=g2
   have dR:=(od h1 hp).1
   rw[g3,ak (by simp)]
   have hlen:(v.bg.zip s.bars).length=s.bars.length:=by rw[List.length_zip];omega
   rw[fg (σ:=List Written) (st:=fun z k=>(k,z)) (l:=v.bg.zip s.bars) (fun z x=>if(decide (nJ p x.2 x.1)&&ng x.1.length z x.1.notes)=true then .inl (z++x.1.notes) else .inr (.inr false)) (fun z=> .inl ()) (fun k z=>z.length≤20000) (fun k x z hx hz=>by
    obtain⟨q1,q2⟩:=oA hx
    have hk:=bU q2
    have hm:=List.mem_of_getElem? q1
    have kN:=qG h1 (List.mem_of_getElem? q2)
    have hn:=pZ hm
    dsimp only
    rw[ai (decide_eq_true (by omega)),aX (aW q1)]
    unfold MB
    rw[af,aX (aW g1),aX (aW q2),ag8 dR kN.2.2.2,af,Wc,af]
    by_cases hh:nJ p x.2 x.1
    ·rw[ak (by rw[decide_eq_true (p:=x.1.aZ=x.2.id∧x.1.key=nW p x.2.key∧x.1.length=x.2.length) hh];rfl),acw (by rw[hh.2.2];exact kN.2.1) hz (by omega),decide_eq_true hh,Bool.true_and]
     by_cases hw:ng x.1.length z x.1.notes=true
     ·rw[if_pos hw,if_pos hw,fQ,aJ (by omega)];rfl
     rw[if_neg hw,if_neg hw,iK]
    ·rw[ai (by rw[decide_eq_false (p:=x.1.aZ=x.2.id∧x.1.key=nW p x.2.key∧x.1.length=x.2.length) hh];rfl),iK,decide_eq_false hh,Bool.false_and,if_neg (by simp)]) (fun k x z z' hx hz hf=>by
    split at hf
    ·rename_i hc
     injection hf with hf;subst hf
     simp only[Bool.and_eq_true] at hc
     rcases (Mc.1 hc.2).2.2.2 with a4 | a4
     ·rw[a4,List.append_nil];exact hz
     exact a4
    cases hf) (fun z hz=>by dsimp only;rw[hlen,ak (by simp)]) [] (by simp),Ro]
   have JX:=Hy p (v.bg.zip s.bars) [] (by simp) (by simp)
   have bA:((v.bg.zip s.bars).flatMap fun x=>x.1.notes)=c6 v:=by
    unfold c6
    have e:(v.bg.zip s.bars).map Prod.fst=v.bg:=List.map_fst_zip (by omega)
    conv=>rhs;rw[←e]
    rw[List.flatMap_map]
   rw[List.nil_append,bA] at JX
   by_cases hc:oq p (v.bg.zip s.bars) []=true
   ·rw[if_pos hc,fQ]
    obtain⟨c1,c2,c3⟩:=JX.1 hc
    rw[decide_eq_true (p:=ej s v) ⟨h1,h2,⟨p,hp,c1⟩,c2,c3⟩]
   rw[if_neg hc,iK,decide_eq_false]
   rintro⟨_,_,⟨q,hq,h⟩,c2,c3⟩
   rw[hp] at hq
   injection hq with hq;subst hq
   exact hc (JX.2 ⟨h,c2,c3⟩)
  rw[af,ai (by simp;omega),decide_eq_false (fun h=>h2 h.2.1)]
 rw[ai (by simp[h1]),af,ai rfl,decide_eq_false (fun h=>h1 h.1)]
end Go.Proofs.YtfhkmedbfiphbaaGreatDoor
namespace Go.Proofs.YtfhkmedbfiphbaaGreatDoor
open Go Go.aj Go.Sy
attribute [local instance] cD dh
def bJ (p:Part):Int:=if p.of=0 then p.id else p.of
theorem Hb (p:Part):tG p=some (bJ p):=by
 unfold tG bJ
 by_cases h:p.of=0
 ·rw[ai (by simp[h]),if_pos h]
 rw[ak (by simp[h]),if_neg h]
def iw (s:Score) (p:Part):Part:=(partOf s (bJ p)).getD p
theorem rO {s:Score} (hs:cL s) {p:Part} (hp:p∈s.parts):partOf s (bJ p)=some (iw s p)∧(iw s p).of=0∧iw s p∈s.parts∧(iw s p).id=bJ p:=by
 have dR:=hs.2.2.1
 have key:∃ q∈s.parts,q.id=bJ p∧q.of=0:=by
  unfold bJ
  by_cases h:p.of=0
  ·rw[if_pos h];exact⟨p,hp,rfl,h⟩
  rw[if_neg h]
  have hl:=List.any_eq_false.1 dR.2.2.2 p hp
  unfold qa at hl
  simp only[h,decide_false,Bool.not_false,Bool.true_and,Bool.not_eq_true',Bool.not_eq_false] at hl
  obtain⟨q,hq,h2⟩:=List.any_eq_true.1 hl
  simp only[Bool.and_eq_true,decide_eq_true_eq] at h2
  exact⟨q,hq,h2.1,h2.2⟩
 obtain⟨q,hq,h1,h2⟩:=key
 have hf:partOf s (bJ p)=some q:=by
  unfold partOf
  have:=qQ dR.2.2.1 hq
  rwa [h1] at this
 have ho:iw s p=q:=by unfold iw;rw[hf];rfl
 rw[ho]
 exact⟨hf,h2,hq,h1⟩
theorem W2 {l:List Part} (hl:l.length≤1000000) (id:Int):BL (l,id,())=some (max (ix l fun p=>decide (p.id=id)) 0,decide (0≤ix l fun p=>decide (p.id=id))):=by
 unfold BL
 dsimp only
 rw[vG (l:=l) (fun p=>decide (p.id=id)) (fun k x hx=>by
  have hk:=bU hx
  rw[ai (by simpa using hk),aX (aW hx)]
  unfold MH
  rw[af]
  by_cases h:x.id=id
  ·rw[ai (by simp[h])];simp[h]
  rw[ak (by simp[h]),aJ (by omega)];simp[h]) (by rw[ak (by simp)])]
 exact(aX (xK l _)).trans rfl
theorem Ve {s:Score} (hs:cL s) {id:Int} {p:Part} (h:partOf s id=some p):ye (id,s)=some p:=by
 have hb:=hs.2.1.1.2
 have hp:=hs.2.2.1.1.2
 obtain⟨dR,fM,an⟩:=od hs h
 unfold ye MF MG
 dsimp only
 rw[B8 (by omega),af,ai (by simp[hs]),G6,af,af,af,ak (by
  have:=dR.1
  rw[an] at this
  rw[decide_eq_true this];rfl),W2 (by omega),af]
 unfold partOf at h
 rcases mq s.parts fun q=>decide (q.id=id) with ⟨h1,h2⟩ | ⟨k,q,h1,h2,h3,h4⟩
 ·rw[h1] at h;cases h
 rw[h2] at h
 injection h with h;subst h
 rw[h3,af]
 dsimp only
 rw[show max (k:Int) 0=(k:Int) by omega,aX (aW h1)]
theorem afv {s:Score} (hs:cL s) {id:Int} {p:Part} (h:partOf s id=some p):FO (s,id)=some ⟨p,s,iw s p⟩:=by
 obtain⟨dR,fM,an⟩:=od hs h
 obtain⟨o1,o2,o3,o4⟩:=rO hs fM
 unfold FO
 dsimp only
 rw[Ve hs h,af,af]
 by_cases h0:p.of=0
 ·have:iw s p=p:=by
   have e:bJ p=id:=by unfold bJ;rw[if_pos h0,an]
   unfold iw
   rw[e,h];rfl
  rw[ak (by simp[h0]),af,this]
 have e:bJ p=p.of:=by unfold bJ;rw[if_neg h0]
 rw[e] at o1
 rw[ai (by simp[h0]),Ve hs o1,af,af]
def others (s:Score) (p:Part):List ag:=s.notes.filter fun n=> !decide (n.part=bJ p)
def jB (x:aE) (n:Int):aE:=⟨x.step,x.alter,x.au - n⟩
def dx (p:Part) (b:aD) (w:Written):aE×Int:=e8 w.aM (cQ (j6 p b.key))
def tq (s:Score) (p:Part) (b:aD) (w:Written):ag:=⟨w.id,bJ p,b.id,w.bm,w.bH,w.start,w.length,jB (dx p b w).1 p.au⟩
def qR (s:Score) (p:Part) (x:aE):Prop:=kx x∧num (iw s p).low≤num x∧num x≤num (iw s p).high
instance (s:Score) (p:Part) (x:aE):Decidable (qR s p x):=inferInstanceAs (Decidable (_∧_∧_))
def ql (s:Score) (p:Part) (b:aD) (w:Written):Int:=if((others s p).any fun n=>decide (n.id=w.id))=true then 5 else if(dx p b w).2=0∧qR s p (jB (dx p b w).1 p.au) then 0 else 20
theorem KY (p:Part) (b:aD) (w:Written) : -100≤(dx p b w).1.au∧(dx p b w).1.au≤100:=by
 unfold dx e8
 split
 ·split
  ·rename_i h
   obtain⟨_,_,h1,h2⟩:=h
   dsimp only
   omega
  simp
 simp
theorem agY {o:Part} (ho:eM o) {x:aE} (hx:bZ x):yi (o,x)=some (decide (num o.low≤num x∧num x≤num o.high)):=by
 obtain⟨_,_,_,hc⟩:=(nk o).1 ho
 unfold yi
 dsimp only
 rw[mw hx,af,mw hc.1,af,mw hc.2.1,af,yA,af]
theorem ahf {s:Score} (hs:cL s) {p:Part} (hp:p∈s.parts) {i:Nat} {b:aD} (hb:s.bars[i]?=some b) (w:Written):∃ n,Gi (s,p,(i:Int),w)=some (n,ql s p b w)∧(ql s p b w=0→n=tq s p b w):=by
 have dR:=hs.2.2.1.2.1 p hp
 have kN:=qG hs (List.mem_of_getElem? hb)
 have iY:=hs.2.2.2.1.2.1
 have oH:=hs.2.2.1.1.2
 obtain⟨o1,o2,o3,o4⟩:=rO hs hp
 have oG:=hs.2.2.1.2.1 _ o3
 unfold Gi
 dsimp only
 rw[Hb,af,aX (aW hb),wm (by omega),af]
 have ab6:(aa (ab (leI 0 (ix s.notes fun n=>decide (n.id=w.id))) (aa (av s.notes (ix s.notes fun n=>decide (n.id=w.id))) fun v7=>some (!(ay v7.part (bJ p)))) (some false)) fun(v7:Bool)=>some v7)=some ((others s p).any fun n=>decide (n.id=w.id)):=by
  rcases mq s.notes fun n=>decide (n.id=w.id) with ⟨h1,h2⟩ | ⟨k,n,h1,h2,h3,h4⟩
  ·rw[h2,ak (by simp),af]
   congr 1;symm
   rw[List.any_eq_false]
   intro x hx
   have:=List.find?_eq_none.1 h1 x (List.mem_filter.1 hx).1
   simpa using this
  rw[h3,ai (by simp),aX (aW h1),af]
  have h4:n.id=w.id:=by simpa using h4
  congr 1
  rw[Bool.eq_iff_iff,List.any_eq_true]
  constructor
  ·intro h
   exact⟨n,List.mem_filter.2 ⟨List.mem_of_getElem? h1,by simpa using h⟩,by simp[h4]⟩
  rintro⟨x,hx,he⟩
  obtain⟨KN,rk⟩:=List.mem_filter.1 hx
  have:=sY hs.2.2.2.1.2.2.2 KN (List.mem_of_getElem? h1) (by rw[h4];simpa using he)
  subst this
  simpa using rk
 have y4:∀ {β:Type} (o:Option Bool) (f:Bool→Option β) (z:Bool),(aa o fun v=>some v)=some z→aa o f=f z:=by
  intro β o f z h
  cases o with
  | none=>cases h
  | some y=>injection h with h;subst h;rfl
 rw[y4 _ _ _ ab6]
 unfold ql
 by_cases ht:((others s p).any fun n=>decide (n.id=w.id))=true
 ·rw[ai ht,if_pos ht];exact⟨_,rfl,fun h=>by cases h⟩
 rw[ak (by simpa using ht),if_neg ht,aX (aW hb),ag5 dR kN.2.2.2,af]
 have fW:e8 w.aM (cQ (j6 p b.key))=dx p b w:=rfl
 rw[fW]
 have Aj:=KY p b w
 have abR:=dR.2.2.2.1
 by_cases h0:(dx p b w).2=0
 ·rw[ak (by simp[h0]),aJ (by omega)]
  have hx:(⟨(dx p b w).1.step,(dx p b w).1.alter,(dx p b w).1.au - p.au⟩:aE)=jB (dx p b w).1 p.au:=rfl
  rw[hx,VX,af]
  by_cases hn:kx (jB (dx p b w).1 p.au)
  ·rw[ak (by simp[hn]),yy (by omega),af]
   unfold partOf at o1
   rcases mq s.parts fun q=>decide (q.id=bJ p) with ⟨g1,g2⟩ | ⟨k,q,g1,g2,g3,g4⟩
   ·rw[g1] at o1;cases o1
   rw[g2] at o1
   injection o1 with o1
   rw[g3,aX (aW g1),o1,agY oG hn.1,af,af]
   by_cases hr:num (iw s p).low≤num (jB (dx p b w).1 p.au)∧num (jB (dx p b w).1 p.au)≤num (iw s p).high
   ·rw[ak (by rw[decide_eq_true hr];rfl),if_pos ⟨h0,hn,hr⟩]
    exact⟨_,rfl,fun _=>rfl⟩
   rw[ai (by rw[decide_eq_false hr];rfl),if_neg (fun h=>hr h.2.2)]
   exact⟨_,rfl,fun h=>by cases h⟩
  rw[ai (by simp[hn]),af,ai rfl,if_neg (fun h=>hn h.2.1)]
  exact⟨_,rfl,fun h=>by cases h⟩
 rw[ai (by simp[h0]),if_neg (fun h=>h0 h.1)]
 exact⟨_,rfl,fun h=>by cases h⟩
end Go.Proofs.YtfhkmedbfiphbaaGreatDoor
