/- Functions of the program, and what they come to. -/
import Derived.Test.YtolmneojjjpnjaaGreatFallsBentF0
namespace Go.Tf
noncomputable section
open Go.Proofs Go.Proofs.Tryz IntKind
set_option synthInstance.maxHeartbeats 400000
set_option synthInstance.maxSize 10000
set_option linter.unusedVariables false
set_option linter.unusedSimpArgs false
set_option maxRecDepth 100000
def yWi:Code:=(f209.body).getD .skip
def yWP:Env:=zkw TT [(229,yqX)] []
theorem yN0:FrOk prog ⟨yWP,17,fun _=>none⟩ yWi:=zkA mixed yd ⟨yG6,trivial⟩
abbrev ynI:List Par:= [.rd tG,.rd tI]
abbrev yvw:List OT:= [⟨false,tI,.fz⟩]
def yrt (a0:dG) (a1:Int):Option (zaY yvw×zak ynI) :=let r1:=yfU a0 a1;bif(!r1)then some (((-1),()),()) else bif(a0.1 !=0)then some (((i64.wrap ((i64.wrap (a0.1-1))-(a1.tmod a0.1))),()),()) else none
theorem yRE:ConOk prog 209 ⟨ynI,yvw,fun x=>yrt x.1 x.2.1⟩:=zkI (yN0) func209 ntmps209.symm fun x=>by kernel_rfl
def ydU (a0:dG) (a1:Int):Int:=yh a0 a1
theorem yUP (a0:dG) (a1:Int) (hk:zjx ynI (a0,a1,())):yrt a0 a1=(fun n=>some ((n,()),())) (ydU a0 a1):=by
 unfold yrt ydU;rw[ySo];cases hs:ycH a0 a1
 ·unfold yh; rw[hs]; rfl
 ·have h1:=ybD.1 hs
  have h2:=yk.1 h1.1;have h3:=yo5 hs;have h4:yh a0 a1=a0.1-1-a1.tmod a0.1:=by unfold yh; rw[hs]; rfl
  rw[show(a0.1 !=0)=true from bne_iff_ne.2 (by omega),wq (a0.1-1) (by omega) (by omega),wq (a0.1-1-a1.tmod a0.1) (by omega) (by omega),h4]; rfl
def yqU:Con:=⟨ynI,yvw,fun x=>(fun n=>some ((n,()),())) (ydU x.1 x.2.1)⟩
theorem yG3:ConOk prog 209 yqU:=(yRE).mono (fun x r hk h=>(yUP x.1 x.2.1 hk).trans h)
def y3y:Code:=(f242.body).getD .skip
def y36:Env:=zkw TT [(82,yq),(209,yqU),(229,yqX)] []
theorem yTl:FrOk prog ⟨y36,28,fun _=>none⟩ y3y:=zkA mixed yd ⟨yy,yG3,yG6,trivial⟩
abbrev ysd:List Par:= [.rd tG,.rd tI,.rd tI]
abbrev yCe:List OT:= [⟨false,tI,.fz⟩]
def ywN (a0:dG) (a1 a2:Int):Option (zaY yCe×zak ysd) :=let r1:=yfU a0 a1;bif(!(!r1))then let r2:=ya a2 0 (i64.wrap (a0.1-2));bif(!r2)then some (((-1),()),()) else let r3:=ydU a0 a1;bif(a0.1 !=0)then some ((((i64.wrap ((i64.wrap (r3+1))+a2)).tmod a0.1),()),()) else none else some (((-1),()),())
theorem yY0:ConOk prog 242 ⟨ysd,yCe,fun x=>ywN x.1 x.2.1 x.2.2.1⟩:=zkI (yTl) func242 ntmps242.symm fun x=>by kernel_rfl
def ymu (a0:dG) (a1 a2:Int):Int:=yfD a0 a1 a2
theorem y1r (a0:dG) (a1 a2:Int) (hk:zjx ysd (a0,a1,a2,())):ywN a0 a1 a2=(fun n=>some ((n,()),())) (ymu a0 a1 a2):=by
 unfold ywN ymu yfD ydU;rw[ySo];cases hs:ycH a0 a1
 ·rfl
 ·have h1:=ybD.1 hs
  have h2:=yk.1 h1.1;have h3:=yo5 hs;rw[ybm,wq (a0.1-2) (by omega) (by omega)];cases hi:(leb 0 a2&&leb a2 (a0.1-2))
  ·rfl
  ·rw[Bool.and_eq_true,zj7,zj7]at hi
   rw[show(a0.1 !=0)=true from bne_iff_ne.2 (by omega)];show some (((i64.wrap (i64.wrap (yh a0 a1+1)+a2)).tmod a0.1,()),())=some (((yh a0 a1+1+a2).tmod a0.1,()),());rw[wq (yh a0 a1+1) (by omega) (by omega),wq (yh a0 a1+1+a2) (by omega) (by omega)]
def yIj:Con:=⟨ysd,yCe,fun x=>(fun n=>some ((n,()),())) (ymu x.1 x.2.1 x.2.2.1)⟩
theorem y2p:ConOk prog 242 yIj:=(yY0).mono (fun x r hk h=>(y1r x.1 x.2.1 x.2.2.1 hk).trans h)
def yrZ:Code:=(f218.body).getD .skip
def yBt:Env:=zkw TT [(227,ys5),(242,yIj)] []
theorem yTH:FrOk prog ⟨yBt,41,fun _=>none⟩ yrZ:=zkA mixed yd ⟨yIU,y2p,trivial⟩
def yHL:Nat→Option Seg:=fun _=>none
def ycR:Shape:=⟨[(1,false,[.int .i64]),(2,false,[.ptr 0 0]),(6,false,[.at 800000000]),(7,false,[.bool]),(8,false,[.at 800000001]),(9,false,[.int .i64])],[(0,[.int .i64,.int .i64,.int .i64,.br tM,.int .i64,.int .i64,.int .i64,.int .i64,.int .i64,.br tW,.int .i64,.bool,.bool])],[(800000000,tI,.fz),(800000001,tI,.fz)]⟩
def yhA:Shape:=⟨[(1,false,[.int .i64]),(2,false,[.ptr 0 0]),(6,false,[.at 800000000]),(7,false,[.bool]),(8,false,[.at 800000001]),(9,false,[.ci .i64 0])],[(0,[.int .i64,.int .i64,.int .i64,.br tM,.int .i64,.int .i64,.int .i64,.int .i64,.int .i64,.br tW,.int .i64,.bool,.bool])],[(800000000,tI,.fz),(800000001,tI,.fz)]⟩
def yhn:Shape:=⟨[(7,false,[.bool]),(8,false,[.at 800000000])],[],[(800000000,tI,.fz)]⟩
def ylB:Shape:=⟨[],[],[]⟩
abbrev ygM (v0:Int) (v1:Bool) (v2:Int) (v3:dA) (v4 v5:List Int):(ycR).X:=(((v0,()),((),()),((),()),(v1,()),((),()),(v2,()),()),((v3.1,v3.2.1.1,v3.2.1.2,v3.2.2.1,v3.2.2.2.1,v3.2.2.2.2.1,v3.2.2.2.2.2.1,v3.2.2.2.2.2.2.1,v3.2.2.2.2.2.2.2.1,v3.2.2.2.2.2.2.2.2.1,v3.2.2.2.2.2.2.2.2.2.1,v3.2.2.2.2.2.2.2.2.2.2.1,v3.2.2.2.2.2.2.2.2.2.2.2,()),()),(v4,v5,()))
abbrev yEb (v0:Int) (v1:Bool) (v2:dA) (v3 v4:List Int):(yhA).X:=(((v0,()),((),()),((),()),(v1,()),((),()),((),()),()),((v2.1,v2.2.1.1,v2.2.1.2,v2.2.2.1,v2.2.2.2.1,v2.2.2.2.2.1,v2.2.2.2.2.2.1,v2.2.2.2.2.2.2.1,v2.2.2.2.2.2.2.2.1,v2.2.2.2.2.2.2.2.2.1,v2.2.2.2.2.2.2.2.2.2.1,v2.2.2.2.2.2.2.2.2.2.2.1,v2.2.2.2.2.2.2.2.2.2.2.2,()),()),(v3,v4,()))
abbrev yq9 (v0:Bool) (v1:List Int):(yhn).X:=(((v0,()),((),()),()),(),(v1,()))
def ykd (v0:Int) (v1:Bool) (v2 v3 v4 v5:Int) (v6:List dM) (v7 v8 v9 v10 v11:Int) (v12:List dW) (v13:Int) (v14 v15:Bool) (v16 v17:List Int):Option ((ycR).X ⊕ ((yhn).X ⊕ (ylB).X)) :=bif(ltb v2 (i64.wrap (v4-1)))then bif v1 then let r3:=ymu (v4,v5) v0 v2;bif(inb r3 v16.length)then bif(zkl v17.length ([(nth v16 r3 0)]:List Int).length 8)then some (.inl (((v0,()),((),()),((),()),(v1,()),((),()),((i64.wrap (v2+1)),()),()),((v3,v4,v5,v6,v7,v8,v9,v10,v11,v12,v13,v14,v15,()),()),(v16,(v17++([(nth v16 r3 0)]:List Int)),()))) else none else none else some (.inr (.inl (((v1,()),((),()),()),(),(v17,())))) else some (.inr (.inl (((v1,()),((),()),()),(),(v17,()))))
def yaB (x:(ycR).X):=ykd x.1.1.1 x.1.2.2.2.1.1 x.1.2.2.2.2.2.1.1 x.2.1.1.1 x.2.1.1.2.1 x.2.1.1.2.2.1 x.2.1.1.2.2.2.1 x.2.1.1.2.2.2.2.1 x.2.1.1.2.2.2.2.2.1 x.2.1.1.2.2.2.2.2.2.1 x.2.1.1.2.2.2.2.2.2.2.1 x.2.1.1.2.2.2.2.2.2.2.2.1 x.2.1.1.2.2.2.2.2.2.2.2.2.1 x.2.1.1.2.2.2.2.2.2.2.2.2.2.1 x.2.1.1.2.2.2.2.2.2.2.2.2.2.2.1 x.2.1.1.2.2.2.2.2.2.2.2.2.2.2.2.1 x.2.2.1 x.2.2.2.1
def yDP (x:(yhA).X):(ycR).X:=(((x.1.1.1,()),((),()),((),()),(x.1.2.2.2.1.1,()),((),()),(0,()),()),((x.2.1.1.1,x.2.1.1.2.1,x.2.1.1.2.2.1,x.2.1.1.2.2.2.1,x.2.1.1.2.2.2.2.1,x.2.1.1.2.2.2.2.2.1,x.2.1.1.2.2.2.2.2.2.1,x.2.1.1.2.2.2.2.2.2.2.1,x.2.1.1.2.2.2.2.2.2.2.2.1,x.2.1.1.2.2.2.2.2.2.2.2.2.1,x.2.1.1.2.2.2.2.2.2.2.2.2.2.1,x.2.1.1.2.2.2.2.2.2.2.2.2.2.2.1,x.2.1.1.2.2.2.2.2.2.2.2.2.2.2.2.1,()),()),(x.2.2.1,x.2.2.2.1,()))
def yFQ:Code:=(zd7 yrZ 64 244).getD .skip
theorem yST:zd7 yrZ 64 61=some (.block 0 (.loop yFQ)):=by kernel_rfl
theorem yVY (x:(ycR).X):zhu ⟨yBt,41,yHL⟩ 0 yFQ 244 ycR yhn ylB x=yaB x:=by kernel_rfl
def yD2 (x:(yhA).X):Nat:=18446744073709551616
def ylo (x:(yhA).X):Option ((yhn).X ⊕ (ylB).X):=zF yaB (yD2 x) (yDP x)
def yEo:Seg:=⟨yhA,yhn,ylB,ylo⟩
def yWw:Nat→Option Seg:=fun q=>bif Nat.beq q 61 then some yEo else yHL q
theorem yTI:FrOk prog ⟨yBt,41,yWw⟩ yrZ:=(yTH).loop (sg:=yEo) ycR yDP (by decide) yST yaB yD2 (by decide) (fun _=>rfl) (fun x r _ h=>h) yVY
abbrev yme:List Par:= [.rd tA,.rd tI]
abbrev ysp:List OT:= [⟨false,tL,(.ow .fz)⟩,⟨false,tB,.fz⟩]
def ywV (a0:dA) (a1:Int):Option (zaY ysp×zak yme) :=bnd (yk1 a0 a1) fun r1 =>zkt (ylo (((a1,()),((),()),((),()),(r1.1.2.1,()),((),()),((),()),()),((a0.1,a0.2.1.1,a0.2.1.2,a0.2.2.1,a0.2.2.2.1,a0.2.2.2.2.1,a0.2.2.2.2.2.1,a0.2.2.2.2.2.2.1,a0.2.2.2.2.2.2.2.1,a0.2.2.2.2.2.2.2.2.1,a0.2.2.2.2.2.2.2.2.2.1,a0.2.2.2.2.2.2.2.2.2.2.1,a0.2.2.2.2.2.2.2.2.2.2.2,()),()),(r1.1.1,([]:List Int),()))) (fun y3 =>some ((y3.2.2.1,y3.1.1.1,()),())) (fun y3 =>none)
theorem yZg:ConOk prog 218 ⟨yme,ysp,fun x=>ywV x.1 x.2.1⟩:=zkI (yTI) func218 ntmps218.symm fun x=>by kernel_rfl
def yst (a0:dA) (a1:Int):List Int×Bool:=yPq a0 a1
def yCQ (a0:dA) (a1:Int):Bool:=ycH a0.2.1 a1
theorem y1C (a0:dA) (a1:Int) (hk:zjx yme (a0,a1,())) (hq:yCQ a0 a1=true):ywV a0 a1=(fun n=>some ((n.1,n.2,()),())) (yst a0 a1):=by
 have hs:ycH a0.2.1 a1=true:=hq;have hg:=yk.1 (ybD.1 hs).1;unfold ywV yst yPq;rw[yI0 a0 a1 (ybD.1 hs).1,yg4];simp only[zkH];cases hw:(yaA a0 a1).2
 ·have h1:ylo (yEb a1 false a0 (yaA a0 a1).1 [])=some (.inl (yq9 false [])) :=
   zkL (step:=yaB) (fun i=>ygM a1 false i a0 (yaA a0 a1).1 []) 0 _ (fun i hi=>absurd hi (Nat.not_lt_zero _)) (by
    simp only[yaB,ygM,ykd,cond_false]
    cases ltb ((0:Nat):Int) (i64.wrap (a0.2.1.1-1))<;>rfl) _ (by show _<18446744073709551616; omega)
  rw[h1]; rfl
 ·have hL:=y3i hw
  have h1:ylo (yEb a1 true a0 (yaA a0 a1).1 [])=some (.inl (yq9 true ((List.range (a0.2.1.1-1).toNat).foldl (fun l (i:Nat)=>l++ [nth (yaA a0 a1).1 (yfD a0.2.1 a1 i) 0]) []))) :=
   zkD (step:=yaB) (a0.2.1.1-1).toNat (fun i s=>ygM a1 true i a0 (yaA a0 a1).1 s) (fun l (i:Nat)=>l++ [nth (yaA a0 a1).1 (yfD a0.2.1 a1 i) 0]) (fun i s=>s.length=i) (fun s=> .inl (yq9 true s)) (fun i s hi hs2=>⟨by
    have hd:=y6A hs (show(0:Int)≤i by omega) (show(i:Int)≤a0.2.1.1-2 by omega);simp only[yaB,ygM,ykd,wq (a0.2.1.1-1) (by omega) (by omega),zky (show(i:Int)<a0.2.1.1-1 by omega),cond_true,wq ((i:Int)+1) (by omega) (by omega),Int.natCast_add,Int.natCast_one,Int.toNat_natCast,zkX,ymu,zj6.2 (show 0≤yfD a0.2.1 a1 i∧yfD a0.2.1 a1 i<(yaA a0 a1).1.length by omega)]
    rw[zkF.2 (show(s.length+ [nth (yaA a0 a1).1 (yfD a0.2.1 a1 i) 0].length)*8≤140737488355328 by simp only[List.length_cons,List.length_nil]; omega)]; rfl,by simp[hs2]⟩) (fun s hs2=>by simp only[yaB,ygM,ykd,wq (a0.2.1.1-1) (by omega) (by omega),zk3 (show a0.2.1.1-1≤((a0.2.1.1-1).toNat:Int)by omega),cond_false]) [] rfl _ (by show _<18446744073709551616; omega)
  rw[h1,ywc]; rfl
def ysv (a0:dA) (a1:Int):Option (zaY ysp×zak yme):=bif yCQ a0 a1 then(fun n=>some ((n.1,n.2,()),())) (yst a0 a1)else none
theorem y2C (a0:dA) (a1:Int) (h:yCQ a0 a1=true):ysv a0 a1=(fun n=>some ((n.1,n.2,()),())) (yst a0 a1):=by unfold ysv; rw[h]; rfl
def yIq:Con:=⟨yme,ysp,fun x=>ysv x.1 x.2.1⟩
theorem y2w:ConOk prog 218 yIq:=(yZg).mono (fun x r hk h=>zkY h (fun hq=>y1C x.1 x.2.1 hk hq))
def yWp:Code:=(f181.body).getD .skip
def yWW:Env:=zkw TT [(215,yCH),(218,yIq)] []
theorem yN9:FrOk prog ⟨yWW,28,fun _=>none⟩ yWp:=zkA mixed yd ⟨yO3,y2w,trivial⟩
abbrev yis:List Par:= [.rd tA,.rd tI]
abbrev ynS:List OT:= [⟨false,tL,(.ow .fz)⟩,⟨false,tB,.fz⟩]
def yrz (a0:dA) (a1:Int):Option (zaY ynS×zak yis) :=let r1:=yjK a0 a1;bif(leb 0 r1)then bif(inb r1 a0.2.2.2.2.2.2.2.2.1.length)then bif(zkl ([]:List Int).length ((nth a0.2.2.2.2.2.2.2.2.1 r1 (0,[])).2).length 8)then some (((([]:List Int)++((nth a0.2.2.2.2.2.2.2.2.1 r1 (0,[])).2)),true,()),()) else none else none else bif a0.2.2.2.2.2.2.2.2.2.2.2 then some ((([]:List Int),false,()),()) else bnd (ysv a0 a1) fun r2 =>some ((r2.1.1,r2.1.2.1,()),())
theorem yRM:ConOk prog 181 ⟨yis,ynS,fun x=>yrz x.1 x.2.1⟩:=zkI (yN9) func181 ntmps181.symm fun x=>by kernel_rfl
def yjt (a0:dA) (a1:Int):List Int×Bool:=yaq a0 a1
def ywG (a0:dA) (a1:Int):Bool:=ycH a0.2.1 a1
theorem yUX (a0:dA) (a1:Int) (hk:zjx yis (a0,a1,())) (hq:ywG a0 a1=true):yrz a0 a1=(fun n=>some ((n.1,n.2,()),())) (yjt a0 a1):=by
 unfold yrz yjt yaq yjK;rw[y2C a0 a1 hq];simp only[List.nil_append];cases h:leb 0 (yI a0.2.2.2.2.2.2.2.2.1 a1)
 ·cases a0.2.2.2.2.2.2.2.2.2.2.2<;>rfl
 ·have h1:=(yoM (d:=((0,[]):dW)) h).1
  have h2:(nth a0.2.2.2.2.2.2.2.2.1 (yI a0.2.2.2.2.2.2.2.2.1 a1) (0,[])).2.length*8≤2^47:=ye1 (P:=fun x:dW=>x.2.length*8≤2^47) h1 (fun x hx=>(hk.1.2.2.2.2.2.2.2.2.1.2 x hx).2.1);rw[show inb (yI a0.2.2.2.2.2.2.2.2.1 a1) a0.2.2.2.2.2.2.2.2.1.length=true from h1,zkF.2 (show(([]:List Int).length+(nth a0.2.2.2.2.2.2.2.2.1 (yI a0.2.2.2.2.2.2.2.2.1 a1) (0,[])).2.length)*8≤140737488355328 by rw[List.length_nil]; omega)]; rfl
def yoe (a0:dA) (a1:Int):Option (zaY ynS×zak yis):=bif ywG a0 a1 then(fun n=>some ((n.1,n.2,()),())) (yjt a0 a1)else none
theorem yVN (a0:dA) (a1:Int) (h:ywG a0 a1=true):yoe a0 a1=(fun n=>some ((n.1,n.2,()),())) (yjt a0 a1):=by unfold yoe; rw[h]; rfl
def yDF:Con:=⟨yis,ynS,fun x=>yoe x.1 x.2.1⟩
theorem yVJ:ConOk prog 181 yDF:=(yRM).mono (fun x r hk h=>zkY h (fun hq=>yUX x.1 x.2.1 hk hq))
def y0c:Code:=(f182.body).getD .skip
def y0F:Env:=zkw TT [(82,yq),(119,yn6)] []
theorem yQx:FrOk prog ⟨y0F,16,fun _=>none⟩ y0c:=zkA mixed yd ⟨yy,yzn,trivial⟩
abbrev ypR:List Par:= [.rd tG,.rd tI]
abbrev yyZ:List OT:= [⟨false,tI,.fz⟩]
def ytE (a0:dG) (a1:Int):Option (zaY yyZ×zak ypR) :=let r1:=yx a0;let r2:=ya a1 0 (i64.wrap (r1-1));bif(!r2)then some (((-1),()),()) else bif((i64.wrap (a0.1-1)) !=0)then some (((a1.tmod (i64.wrap (a0.1-1))),()),()) else none
theorem yVg:ConOk prog 182 ⟨ypR,yyZ,fun x=>ytE x.1 x.2.1⟩:=zkI (yQx) func182 ntmps182.symm fun x=>by kernel_rfl
def ykR (a0:dG) (a1:Int):Int:=yue a0 a1
theorem yYx (a0:dG) (a1:Int) (hk:zjx ypR (a0,a1,())):ytE a0 a1=(fun n=>some ((n,()),())) (ykR a0 a1):=by
 unfold ytE ykR yue;simp only[y7f];cases hb:yn2 a0 a1
 ·rfl
 ·obtain⟨h1,h2,h3⟩:=yHU hb
  have h4:=yk.1 h1;rw[wq (a0.1-1) (by omega) (by omega),show(a0.1-1 !=0)=true from bne_iff_ne.2 (by omega)]; rfl
def yF5:Con:=⟨ypR,yyZ,fun x=>(fun n=>some ((n,()),())) (ykR x.1 x.2.1)⟩
theorem yZC:ConOk prog 182 yF5:=(yVg).mono (fun x r hk h=>(yYx x.1 x.2.1 hk).trans h)
def yur:Code:=(f183.body).getD .skip
def yE4:Env:=zkw TT [] [(4096,(.pr .fz .fz)),(28800,(.pr .fz .fz)),(41472,(.pr .fz .fz)),(49280,(.pr .fz .fz))]
theorem yX0:FrOk prog ⟨yE4,67,fun _=>none⟩ yur:=zkA mixed yd trivial
def yJW:Nat→Option Seg:=fun _=>none
def ydF:Shape:=⟨[(0,false,[.ptr 1000000000 0]),(3,false,[.ptr 0 0]),(4,false,[.at 800000000]),(5,false,[.bool]),(6,false,[.int .i64])],[(0,[.int .i64,.fz tI]),(1000000000,[.int .i64,.int .i64,.int .i64,.at 800000001,.int .i64,.int .i64,.int .i64,.int .i64,.int .i64,.at 800000002,.int .i64,.bool,.bool])],[(800000000,tW,(.pr .fz .fz)),(800000001,tM,(.pr (.ow .fz) (.pr (.ow (.pr .fz .fz)) (.pr .fz (.ow .fz))))),(800000002,tW,(.pr .fz .fz))]⟩
def yiX:Shape:=⟨[(0,false,[.ptr 1000000000 0]),(3,false,[.ptr 0 0]),(4,false,[.at 800000000]),(5,false,[.cb false]),(6,false,[.ci .i64 0])],[(0,[.int .i64,.fz tI]),(1000000000,[.int .i64,.int .i64,.int .i64,.at 800000001,.int .i64,.int .i64,.int .i64,.int .i64,.int .i64,.at 800000002,.int .i64,.bool,.bool])],[(800000000,tW,(.pr .fz .fz)),(800000001,tM,(.pr (.ow .fz) (.pr (.ow (.pr .fz .fz)) (.pr .fz (.ow .fz))))),(800000002,tW,(.pr .fz .fz))]⟩
def yiI:Shape:=⟨[(0,false,[.ptr 1000000000 0]),(3,false,[.ptr 0 0]),(4,false,[.at 800000000]),(5,false,[.bool])],[(0,[.int .i64,.fz tI]),(1000000000,[.int .i64,.int .i64,.int .i64,.at 800000001,.int .i64,.int .i64,.int .i64,.int .i64,.int .i64,.at 800000002,.int .i64,.bool,.bool])],[(800000000,tW,(.pr .fz .fz)),(800000001,tM,(.pr (.ow .fz) (.pr (.ow (.pr .fz .fz)) (.pr .fz (.ow .fz))))),(800000002,tW,(.pr .fz .fz))]⟩
def yn1:Shape:=⟨[],[],[]⟩
abbrev ytn (v0:Bool) (v1:Int) (v2:dW) (v3:dA) (v4:List dW):(ydF).X:=((((),()),((),()),((),()),(v0,()),(v1,()),()),((v2.1,v2.2,()),(v3.1,v3.2.1.1,v3.2.1.2,(),v3.2.2.2.1,v3.2.2.2.2.1,v3.2.2.2.2.2.1,v3.2.2.2.2.2.2.1,v3.2.2.2.2.2.2.2.1,(),v3.2.2.2.2.2.2.2.2.2.1,v3.2.2.2.2.2.2.2.2.2.2.1,v3.2.2.2.2.2.2.2.2.2.2.2,()),()),(v4,v3.2.2.1,v3.2.2.2.2.2.2.2.2.1,()))
abbrev yUo (v0:dW) (v1:dA) (v2:List dW):(yiX).X:=((((),()),((),()),((),()),((),()),((),()),()),((v0.1,v0.2,()),(v1.1,v1.2.1.1,v1.2.1.2,(),v1.2.2.2.1,v1.2.2.2.2.1,v1.2.2.2.2.2.1,v1.2.2.2.2.2.2.1,v1.2.2.2.2.2.2.2.1,(),v1.2.2.2.2.2.2.2.2.2.1,v1.2.2.2.2.2.2.2.2.2.2.1,v1.2.2.2.2.2.2.2.2.2.2.2,()),()),(v2,v1.2.2.1,v1.2.2.2.2.2.2.2.2.1,()))
abbrev yUa (v0:Bool) (v1:dW) (v2:dA) (v3:List dW):(yiI).X:=((((),()),((),()),((),()),(v0,()),()),((v1.1,v1.2,()),(v2.1,v2.2.1.1,v2.2.1.2,(),v2.2.2.2.1,v2.2.2.2.2.1,v2.2.2.2.2.2.1,v2.2.2.2.2.2.2.1,v2.2.2.2.2.2.2.2.1,(),v2.2.2.2.2.2.2.2.2.2.1,v2.2.2.2.2.2.2.2.2.2.2.1,v2.2.2.2.2.2.2.2.2.2.2.2,()),()),(v3,v2.2.2.1,v2.2.2.2.2.2.2.2.2.1,()))
def yt3 (v0:Bool) (v1 v2:Int) (v3:List Int) (v4 v5 v6 v7 v8 v9 v10 v11 v12:Int) (v13 v14:Bool) (v15:List dW) (v16:List dM) (v17:List dW):Option ((ydF).X ⊕ ((yiI).X ⊕ (yn1).X)) :=bif(ltb v1 (v17.length:Int))then bif(!v0)then bif(inb v1 v17.length)then bif(leb v2 ((nth v17 v1 (0,[])).1))then bif(zkl v15.length ([(v2,v3)]:List dW).length 32)then bif(inb v1 v17.length)then bif((nth v17 v1 (0,[])).1 !=v2)then bif(inb v1 v17.length)then bif(zkl (v15++([(v2,v3)]:List dW)).length ([(nth v17 v1 (0,[]))]:List dW).length 32)then some (.inl ((((),()),((),()),((),()),(true,()),((i64.wrap (v1+1)),()),()),((v2,v3,()),(v4,v5,v6,(),v7,v8,v9,v10,v11,(),v12,v13,v14,()),()),(((v15++([(v2,v3)]:List dW))++([(nth v17 v1 (0,[]))]:List dW)),v16,v17,()))) else none else none else some (.inl ((((),()),((),()),((),()),(true,()),((i64.wrap (v1+1)),()),()),((v2,v3,()),(v4,v5,v6,(),v7,v8,v9,v10,v11,(),v12,v13,v14,()),()),((v15++([(v2,v3)]:List dW)),v16,v17,()))) else none else none else bif(inb v1 v17.length)then bif((nth v17 v1 (0,[])).1 !=v2)then bif(inb v1 v17.length)then bif(zkl v15.length ([(nth v17 v1 (0,[]))]:List dW).length 32)then some (.inl ((((),()),((),()),((),()),(v0,()),((i64.wrap (v1+1)),()),()),((v2,v3,()),(v4,v5,v6,(),v7,v8,v9,v10,v11,(),v12,v13,v14,()),()),((v15++([(nth v17 v1 (0,[]))]:List dW)),v16,v17,()))) else none else none else some (.inl ((((),()),((),()),((),()),(v0,()),((i64.wrap (v1+1)),()),()),((v2,v3,()),(v4,v5,v6,(),v7,v8,v9,v10,v11,(),v12,v13,v14,()),()),(v15,v16,v17,()))) else none else none else bif(inb v1 v17.length)then bif((nth v17 v1 (0,[])).1 !=v2)then bif(inb v1 v17.length)then bif(zkl v15.length ([(nth v17 v1 (0,[]))]:List dW).length 32)then some (.inl ((((),()),((),()),((),()),(v0,()),((i64.wrap (v1+1)),()),()),((v2,v3,()),(v4,v5,v6,(),v7,v8,v9,v10,v11,(),v12,v13,v14,()),()),((v15++([(nth v17 v1 (0,[]))]:List dW)),v16,v17,()))) else none else none else some (.inl ((((),()),((),()),((),()),(v0,()),((i64.wrap (v1+1)),()),()),((v2,v3,()),(v4,v5,v6,(),v7,v8,v9,v10,v11,(),v12,v13,v14,()),()),(v15,v16,v17,()))) else none else some (.inr (.inl ((((),()),((),()),((),()),(v0,()),()),((v2,v3,()),(v4,v5,v6,(),v7,v8,v9,v10,v11,(),v12,v13,v14,()),()),(v15,v16,v17,()))))
def yei (x:(ydF).X):=yt3 x.1.2.2.2.1.1 x.1.2.2.2.2.1.1 x.2.1.1.1 x.2.1.1.2.1 x.2.1.2.1.1 x.2.1.2.1.2.1 x.2.1.2.1.2.2.1 x.2.1.2.1.2.2.2.2.1 x.2.1.2.1.2.2.2.2.2.1 x.2.1.2.1.2.2.2.2.2.2.1 x.2.1.2.1.2.2.2.2.2.2.2.1 x.2.1.2.1.2.2.2.2.2.2.2.2.1 x.2.1.2.1.2.2.2.2.2.2.2.2.2.2.1 x.2.1.2.1.2.2.2.2.2.2.2.2.2.2.2.1 x.2.1.2.1.2.2.2.2.2.2.2.2.2.2.2.2.1 x.2.2.1 x.2.2.2.1 x.2.2.2.2.1
def yGr (x:(yiX).X):(ydF).X:=((((),()),((),()),((),()),(false,()),(0,()),()),((x.2.1.1.1,x.2.1.1.2.1,()),(x.2.1.2.1.1,x.2.1.2.1.2.1,x.2.1.2.1.2.2.1,(),x.2.1.2.1.2.2.2.2.1,x.2.1.2.1.2.2.2.2.2.1,x.2.1.2.1.2.2.2.2.2.2.1,x.2.1.2.1.2.2.2.2.2.2.2.1,x.2.1.2.1.2.2.2.2.2.2.2.2.1,(),x.2.1.2.1.2.2.2.2.2.2.2.2.2.2.1,x.2.1.2.1.2.2.2.2.2.2.2.2.2.2.2.1,x.2.1.2.1.2.2.2.2.2.2.2.2.2.2.2.2.1,()),()),(x.2.2.1,x.2.2.2.1,x.2.2.2.2.1,()))
def yH9:Code:=(zd7 yur 64 244).getD .skip
theorem yXb:zd7 yur 64 61=some (.block 0 (.loop yH9)):=by kernel_rfl
theorem yZ1 (x:(ydF).X):zhu ⟨yE4,67,yJW⟩ 0 yH9 244 ydF yiI yn1 x=yei x:=by kernel_rfl
def yGH (x:(yiX).X):Nat:=18446744073709551616
def yuW (x:(yiX).X):Option ((yiI).X ⊕ (yn1).X):=zF yei (yGH x) (yGr x)
def yHy:Seg:=⟨yiX,yiI,yn1,yuW⟩
def y0x:Nat→Option Seg:=fun q=>bif Nat.beq q 61 then some yHy else yJW q
theorem yX1:FrOk prog ⟨yE4,67,y0x⟩ yur:=(yX0).loop (sg:=yHy) ydF yGr (by decide) yXb yei yGH (by decide) (fun _=>rfl) (fun x r _ h=>h) yZ1
abbrev yoA:List Par:= [.pt tA (.pr .fz (.pr (.pr .fz .fz) (.pr (.ow (.pr (.ow .fz) (.pr (.ow (.pr .fz .fz)) (.pr .fz (.ow .fz))))) (.pr .fz (.pr .fz (.pr .fz (.pr .fz (.pr .fz (.pr (.ow (.pr .fz .fz)) (.pr .fz (.pr .fz .fz))))))))))),.kp tW .fz]
abbrev yvF:List OT:= []
def yzJ (a0:dA) (a1:dW):Option (zaY yvF×zak yoA) :=zkt (yuW ((((),()),((),()),((),()),((),()),((),()),()),((a1.1,a1.2,()),(a0.1,a0.2.1.1,a0.2.1.2,(),a0.2.2.2.1,a0.2.2.2.2.1,a0.2.2.2.2.2.1,a0.2.2.2.2.2.2.1,a0.2.2.2.2.2.2.2.1,(),a0.2.2.2.2.2.2.2.2.2.1,a0.2.2.2.2.2.2.2.2.2.2.1,a0.2.2.2.2.2.2.2.2.2.2.2,()),()),(([]:List dW),a0.2.2.1,a0.2.2.2.2.2.2.2.2.1,()))) (fun y0 =>bif(!y0.1.2.2.2.1.1)then bif(zkl y0.2.2.1.length ([(y0.2.1.1.1,y0.2.1.1.2.1)]:List dW).length 32)then some ((),((y0.2.1.2.1.1,(y0.2.1.2.1.2.1,y0.2.1.2.1.2.2.1),y0.2.2.2.1,y0.2.1.2.1.2.2.2.2.1,y0.2.1.2.1.2.2.2.2.2.1,y0.2.1.2.1.2.2.2.2.2.2.1,y0.2.1.2.1.2.2.2.2.2.2.2.1,y0.2.1.2.1.2.2.2.2.2.2.2.2.1,(y0.2.2.1++([(y0.2.1.1.1,y0.2.1.1.2.1)]:List dW)),y0.2.1.2.1.2.2.2.2.2.2.2.2.2.2.1,y0.2.1.2.1.2.2.2.2.2.2.2.2.2.2.2.1,y0.2.1.2.1.2.2.2.2.2.2.2.2.2.2.2.2.1),())) else none else some ((),((y0.2.1.2.1.1,(y0.2.1.2.1.2.1,y0.2.1.2.1.2.2.1),y0.2.2.2.1,y0.2.1.2.1.2.2.2.2.1,y0.2.1.2.1.2.2.2.2.2.1,y0.2.1.2.1.2.2.2.2.2.2.1,y0.2.1.2.1.2.2.2.2.2.2.2.1,y0.2.1.2.1.2.2.2.2.2.2.2.2.1,y0.2.2.1,y0.2.1.2.1.2.2.2.2.2.2.2.2.2.2.1,y0.2.1.2.1.2.2.2.2.2.2.2.2.2.2.2.1,y0.2.1.2.1.2.2.2.2.2.2.2.2.2.2.2.2.1),()))) (fun y0 =>none)
theorem y2f:ConOk prog 183 ⟨yoA,yvF,fun x=>yzJ x.1 x.2.1⟩:=zkI (yX1) func183 ntmps183.symm fun x=>by kernel_rfl
def ywy (a0:dA) (a1:dW):dA:=yHj a0 (yG8 a0.2.2.2.2.2.2.2.2.1 a1)
def yHb (a0:dA) (a1:dW):Bool:=decide (a0.2.2.2.2.2.2.2.2.1.length≤1000)
theorem y4I (a0:dA) (a1:dW) (hk:zjx yoA (a0,a1,())) (hq:yHb a0 a1=true):yzJ a0 a1=(fun n=>some ((),(n,()))) (ywy a0 a1):=by
 have hq:=of_decide_eq_true hq
 have h1:=zkx (step:=yei) a0.2.2.2.2.2.2.2.2.1 (0,[]) (fun i s=>ytn s.1 i a1 a0 s.2) (ycD a1) (fun i s=>s.2.length≤i*2) (fun s=> .inl (yUa s.1 a1 a0 s.2)) (fun i s hi hs=>by
  constructor
  ·simp only[yei,ytn,yt3,zky (show(i:Int)<a0.2.2.2.2.2.2.2.2.1.length by omega),cond_true,wq ((i:Int)+1) (by omega) (by omega),Int.natCast_add,Int.natCast_one,Int.toNat_natCast,zkR hi,zkX,zkS,ycD,zkF.2 (show(s.2.length+ [a1].length)*32≤140737488355328 by simp only[List.length_cons,List.length_nil]; omega),
    show ∀x:dW,zkl s.2.length [x].length 32=true from fun x=>zkF.2 (by simp only[List.length_cons,List.length_nil]; omega),show ∀x:dW,zkl (s.2++ [a1]).length [x].length 32=true from fun x=>zkF.2 (by simp only[List.length_append,List.length_cons,List.length_nil]; omega)]
   cases s.1<;>cases leb a1.1 (a0.2.2.2.2.2.2.2.2.1.getD i (0,[])).1<;>cases((a0.2.2.2.2.2.2.2.2.1.getD i (0,[])).1 !=a1.1)<;>simp
  ·unfold ycD
   have: ∀(b c:Bool) (x:dW),((bif b then s.2++ [a1]else s.2)++(bif c then[x]else[])).length≤(i+1)*2:=fun b c x=>by
    cases b<;>cases c<;>simp<;>omega
   exact this _ _ _) (fun s hs=>by simp only[yei,ytn,yt3,zk3 (Int.le_refl _),cond_false]) (false,[]) (Nat.zero_le _) 18446744073709551616 (by omega)
 have hl:((a0.2.2.2.2.2.2.2.2.1.foldl (ycD a1) (false,[])).2).length≤2000:=by
  have: ∀(l:List dW) (s:Bool×List dW),((l.foldl (ycD a1) s).2).length≤s.2.length+l.length*2:=by
   intro l
   induction l with
   | nil=>intro s; simp
   | cons x t ih =>
    intro s;rw[List.foldl_cons];have:=ih (ycD a1 s x)
    have h2:(ycD a1 s x).2.length≤s.2.length+2:=by
     unfold ycD;cases(!s.1&&leb a1.1 x.1)<;>cases(x.1 !=a1.1)<;>simp
    simp only[List.length_cons]; omega
  have:=this a0.2.2.2.2.2.2.2.2.1 (false,[]);simp only[List.length_nil]at this;omega
 unfold yzJ ywy yG8;refine(congrArg (fun z=>zkt z _ _) (show yuW (yUo a1 a0 [])=_ from h1)).trans ?_;generalize a0.2.2.2.2.2.2.2.2.1.foldl (ycD a1) (false,[])=R at hl;simp only[zkN,zkX];cases hr:R.1
 ·rw[zkF.2 (show(R.2.length+ [a1].length)*32≤140737488355328 by simp only[List.length_cons,List.length_nil]; omega)]; rfl
 ·rfl
def ywA (a0:dA) (a1:dW):Option (zaY yvF×zak yoA):=bif yHb a0 a1 then(fun n=>some ((),(n,()))) (ywy a0 a1)else none
theorem y4X (a0:dA) (a1:dW) (h:yHb a0 a1=true):ywA a0 a1=(fun n=>some ((),(n,()))) (ywy a0 a1):=by unfold ywA; rw[h]; rfl
def yKa:Con:=⟨yoA,yvF,fun x=>ywA x.1 x.2.1⟩
theorem y4U:ConOk prog 183 yKa:=(y2f).mono (fun x r hk h=>zkY h (fun hq=>y4I x.1 x.2.1 hk hq))
def y5h:Code:=(f118.body).getD .skip
def y5w:Env:=zkw TT [(180,yDD),(181,yDF),(182,yF5),(183,yKa)] []
theorem yX2:FrOk prog ⟨y5w,40,fun _=>none⟩ y5h:=zkA mixed yd ⟨yVH,yVJ,yZC,y4U,trivial⟩
abbrev yoB:List Par:= [.pt tA (.pr .fz (.pr (.pr .fz .fz) (.pr (.ow (.pr (.ow .fz) (.pr (.ow (.pr .fz .fz)) (.pr .fz (.ow .fz))))) (.pr .fz (.pr .fz (.pr .fz (.pr .fz (.pr .fz (.pr (.ow (.pr .fz .fz)) (.pr .fz (.pr .fz .fz))))))))))),.rd tI,.rd tI]
abbrev yvG:List OT:= [⟨false,tI,.fz⟩]
def yzK (a0:dA) (a1 a2:Int):Option (zaY yvG×zak yoB) :=let r1:=yjs a0.2.1 a1;bnd (yoe a0 r1) fun r2 =>bif(!r2.1.2.1)then some ((5,()),(a0,())) else let r3:=ykR a0.2.1 a1;bif(inb r3 r2.1.1.length)then bnd (ywA a0 (r1,(r2.1.1.set (r3).toNat a2))) fun r4 =>some ((0,()),(r4.2.1,())) else none
theorem y2g:ConOk prog 118 ⟨yoB,yvG,fun x=>yzK x.1 x.2.1 x.2.2.1⟩:=zkI (yX2) func118 ntmps118.symm fun x=>by kernel_rfl
def ypf (a:dA) (b n:Int):Int×dA:=bif(yaq a (yax a.2.1 b)).2 then(0,yHj a (yG8 a.2.2.2.2.2.2.2.2.1 (yax a.2.1 b,(yaq a (yax a.2.1 b)).1.set (yue a.2.1 b).toNat n)))else(5,a)
def ywz (a0:dA) (a1 a2:Int):Int×dA:=ypf a0 a1 a2
def yo7 (a0:dA) (a1 a2:Int):Bool:=yE a0&&(yn2 a0.2.1 a1&&decide (a0.2.2.2.2.2.2.2.2.1.length≤1000))
theorem y4J (a0:dA) (a1 a2:Int) (hk:zjx yoB (a0,a1,a2,())) (hq:yo7 a0 a1 a2=true):yzK a0 a1 a2=(fun n=>some ((n.1,()),(n.2,()))) (ywz a0 a1 a2):=by
 simp only[yo7,Bool.and_eq_true]at hq;have hs:=yJJ hq.2.1;obtain⟨hg,_,hi⟩:=yHU hq.2.1;unfold yzK ywz ypf;simp only[yjs,ykR];rw[yVN a0 (yax a0.2.1 a1) hs];simp only[zkH,yjt];cases hn:(yaq a0 (yax a0.2.1 a1)).2
 ·rfl
 ·have hl:=yCX hq.1 hs hn
  have hx:yue a0.2.1 a1=a1.tmod (a0.2.1.1-1):=by unfold yue; rw[hq.2.1]; rfl
  rw[zj6.2 (show 0≤yue a0.2.1 a1∧yue a0.2.1 a1<(yaq a0 (yax a0.2.1 a1)).1.length by omega),y4X _ _ hq.2.2];rfl
def yfJ (a0:dA) (a1 a2:Int):Option (zaY yvG×zak yoB):=bif yo7 a0 a1 a2 then(fun n=>some ((n.1,()),(n.2,()))) (ywz a0 a1 a2)else none
theorem y4Y (a0:dA) (a1 a2:Int) (h:yo7 a0 a1 a2=true):yfJ a0 a1 a2=(fun n=>some ((n.1,()),(n.2,()))) (ywz a0 a1 a2):=by unfold yfJ; rw[h]; rfl
def yKb:Con:=⟨yoB,yvG,fun x=>yfJ x.1 x.2.1 x.2.2.1⟩
theorem y4V:ConOk prog 118 yKb:=(y2g).mono (fun x r hk h=>zkY h (fun hq=>y4J x.1 x.2.1 x.2.2.1 hk hq))
def y0e:Code:=(f195.body).getD .skip
def y0H:Env:=zkw TT [(82,yq),(150,ygY)] []
theorem yQB:FrOk prog ⟨y0H,60,fun _=>none⟩ y0e:=zkA mixed yd ⟨yy,ymA,trivial⟩
abbrev yyH:List Par:= [.rd tS]
abbrev yy2:List OT:= [⟨false,tB,.fz⟩]
def yHh (a0:dS):Option (zaY yy2×zak yyH) :=let r1:=yf (a0.2.2.2.1,a0.2.2.2.2.1);bif(!(!r1))then let r2:=ya a0.1 1 60000;bif(!(!r2))then let r3:=ya a0.2.1 0 60000;bif(!(!r3))then let r4:=ya a0.2.2.1 0 (i64.wrap (a0.2.2.2.1-1));bif(!(!r4))then let r5:=ya a0.2.2.2.2.2.1 0 60000;bif(!r5)then some ((false,()),()) else let r6:=ya a0.2.2.2.2.2.2.1 (-1) (i64.wrap (a0.2.2.2.1-1));bif r6 then let r7:=ya a0.2.2.2.2.2.2.2 0 a0.2.2.2.2.1;bif r7 then bif(!(leb 0 a0.2.2.2.2.2.2.1))then some (((a0.2.2.2.2.2.2.2==0),()),()) else some ((true,()),()) else some ((false,()),()) else some ((false,()),()) else some ((false,()),()) else some ((false,()),()) else some ((false,()),()) else some ((false,()),())
theorem yVj:ConOk prog 195 ⟨yyH,yy2,fun x=>yHh x.1⟩:=zkI (yQB) func195 ntmps195.symm fun x=>by kernel_rfl
def yC (a0:dS):Bool :=let r1:=yf (a0.2.2.2.1,a0.2.2.2.2.1);bif(!(!r1))then let r2:=ya a0.1 1 60000;bif(!(!r2))then let r3:=ya a0.2.1 0 60000;bif(!(!r3))then let r4:=ya a0.2.2.1 0 (i64.wrap (a0.2.2.2.1-1));bif(!(!r4))then let r5:=ya a0.2.2.2.2.2.1 0 60000;bif(!r5)then false else let r6:=ya a0.2.2.2.2.2.2.1 (-1) (i64.wrap (a0.2.2.2.1-1));bif r6 then let r7:=ya a0.2.2.2.2.2.2.2 0 a0.2.2.2.2.1;bif r7 then bif(!(leb 0 a0.2.2.2.2.2.2.1))then (a0.2.2.2.2.2.2.2==0) else true else false else false else false else false else false else false
def ys4:Con:=⟨yyH,yy2,fun x=>(fun n=>some ((n,()),())) (yC x.1)⟩
theorem yYA (a0:dS):yHh a0=(fun n=>some ((n,()),())) (yC a0):=zkV (p:=fun(n:Bool)=>((n,()),())) (zkG (p:=fun(n:Bool)=>((n,()),())) (zkG (p:=fun(n:Bool)=>((n,()),())) (zkG (p:=fun(n:Bool)=>((n,()),())) (zkG (p:=fun(n:Bool)=>((n,()),())) (zkG (p:=fun(n:Bool)=>((n,()),())) rfl (zkG (p:=fun(n:Bool)=>((n,()),())) (zkG (p:=fun(n:Bool)=>((n,()),())) (zkG (p:=fun(n:Bool)=>((n,()),())) rfl rfl) rfl) rfl)) rfl) rfl) rfl) rfl)
theorem yIT:ConOk prog 195 ys4:=(yVj).mono (fun x r _ h=>(yYA x.1).trans h)
abbrev yaD:dS:=(0,0,0,0,0,0,0,0)
theorem y6u {s:dS}:yC s=true↔yf (s.2.2.2.1,s.2.2.2.2.1)=true∧(1≤s.1∧s.1≤60000)∧(0≤s.2.1∧s.2.1≤60000)∧(0≤s.2.2.1∧s.2.2.1≤s.2.2.2.1-1)∧(0≤s.2.2.2.2.2.1∧s.2.2.2.2.2.1≤60000)∧(-1≤s.2.2.2.2.2.2.1∧s.2.2.2.2.2.2.1≤s.2.2.2.1-1)∧(0≤s.2.2.2.2.2.2.2∧s.2.2.2.2.2.2.2≤s.2.2.2.2.1)∧(0≤s.2.2.2.2.2.2.1∨s.2.2.2.2.2.2.2=0):=by
 unfold yC;cases hg:yf (s.2.2.2.1,s.2.2.2.2.1)
 ·simp
 have hg2:=yk.1 hg;simp only at hg2;rw[wq (s.2.2.2.1-1) (by omega) (by omega)];simp only[Bool.not_not,cond_true,true_and];simp only[← ywm];cases ya s.1 1 60000
 ·simp
 cases ya s.2.1 0 60000
 ·simp
 cases ya s.2.2.1 0 (s.2.2.2.1-1)
 ·simp
 cases ya s.2.2.2.2.2.1 0 60000
 ·simp
 cases ya s.2.2.2.2.2.2.1 (-1) (s.2.2.2.1-1)
 ·simp
 cases ya s.2.2.2.2.2.2.2 0 s.2.2.2.2.1
 ·simp
 cases hl:leb 0 s.2.2.2.2.2.2.1
 ·have:=mt zk2 (by rw[hl]; simp: ¬leb 0 s.2.2.2.2.2.2.1=true)
  simp[this]
 ·simp[zj7.1 hl]
def yED (l:List Int):dS:=(nth l 1 0,nth l 2 0,nth l 3 0,nth l 4 0,nth l 5 0,nth l 6 0,i64.wrap (nth l 7 0-1),nth l 8 0)
def ydO (l:List Int):dS×Bool:=bif(l.length:Int)==9&&(nth l 0 0==21317&&yC (yED l))then(yED l,true)else(yaD,false)
def ySY (m:dM) (i:Int):dS:=(ydO (yr m i).1).1
def yFV (m:dM) (id i:Int):Bool:=(yr m i).2&&((ydO (yr m i).1).2&&((ySY m i).1==id&&(ySY m i).2.1.tmod 2==i))
def ymh (b:dS×Bool) (ok:Bool) (s:dS):dS×Bool:=bif ok&&(!b.2||ltb b.1.2.1 s.2.1)then(s,true)else b
def yaW (m:dM) (id:Int):dS×Bool:=(List.range 2).foldl (fun s (i:Nat)=>ymh s (yFV m id i) (ySY m i)) (yaD,false)
def ylX (m:dM) (i id:Int):Bool:= !m.2.2.1&&((yaW m id).2&&(yaW m id).1.2.2.1==i)
def yan (l:List dM) (id:Int):dS×Bool:=(List.range l.length).foldl (fun s (i:Nat)=>ymh s (ylX (nth l i yc) i id) (yaW (nth l i yc) id).1) (yaD,false)
def ykD (l:List dM) (id:Int) (s:Int×Int×Bool) (i:Nat):Int×Int×Bool:=bif ylX (nth l i yc) i id then s else bif s.1== -1||s.1==i then((i:Int),0,s.2.2)else(s.1,s.2.1,true)
def yhI (b:dS) (l:List dM) (id:Int) (s:Int×Int×Bool):dA:=(id,(b.2.2.2.1,b.2.2.2.2.1),l,s.1,s.2.1,b.2.2.2.2.2.1,b.2.2.2.2.2.1,b.2.1,[],-1,false,s.2.2)
def yJ0 (l:List dM) (id:Int):dA:=yhI (yan l id).1 l id ((List.range l.length).foldl (ykD l id) ((yan l id).1.2.2.2.2.2.2.1,(yan l id).1.2.2.2.2.2.2.2,false))
def yca (l:List dM) (id:Int):dA×Bool:=bif(yan l id).2&&((l.length:Int)==(yan l id).1.2.2.2.1&&yE (yJ0 l id))then(yJ0 l id,true)else(yK,false)
theorem y7M (b:dS×Bool) (s:dS):ymh b false s=b:=rfl
theorem y6r {m:dM} {i:Int} (h:(yr m i).2=true):yu m=true:=by
 unfold yr at h;cases hc:yEC m i
 ·rw[hc]at h; cases h
 ·exact(Bool.and_eq_true_iff.1 hc).1
theorem y7N {m:dM} {id i:Int} (h:yu m=false):yFV m id i=false:=by
 unfold yFV;cases hr:(yr m i).2
 ·rfl
 ·rw[y6r hr]at h; cases h
theorem y7L {m:dM} {id:Int} (h:(yaW m id).2=true):yu m=true:=by
 cases hm:yu m
 ·unfold yaW at h
  simp only[y7N hm,y7M]at h;exact h
 ·rfl
def yWk:Code:=(f144.body).getD .skip
def yWR:Env:=zkw TT [(195,ys4)] []
theorem yN2:FrOk prog ⟨yWR,25,fun _=>none⟩ yWk:=zkA mixed yd ⟨yIT,trivial⟩
abbrev yu7:List Par:= [.rd tS]
abbrev yvy:List OT:= [⟨false,tL,(.ow .fz)⟩]
def yEe (a0:dS):Option (zaY yvy×zak yu7) :=let r1:=yC a0;bif(!r1)then some ((([]:List Int),()),()) else some ((([21317,a0.1,a0.2.1,a0.2.2.1,a0.2.2.2.1,a0.2.2.2.2.1,a0.2.2.2.2.2.1,(i64.wrap (a0.2.2.2.2.2.2.1+1)),a0.2.2.2.2.2.2.2]:List Int),()),())
theorem yRG:ConOk prog 144 ⟨yu7,yvy,fun x=>yEe x.1⟩:=zkI (yN2) func144 ntmps144.symm fun x=>by kernel_rfl
def yJ (a0:dS):(List Int) :=let r1:=yC a0;bif(!r1)then ([]:List Int) else ([21317,a0.1,a0.2.1,a0.2.2.1,a0.2.2.2.1,a0.2.2.2.2.1,a0.2.2.2.2.2.1,(i64.wrap (a0.2.2.2.2.2.2.1+1)),a0.2.2.2.2.2.2.2]:List Int)
def yj8:Con:=⟨yu7,yvy,fun x=>(fun n=>some ((n,()),())) (yJ x.1)⟩
theorem yUR (a0:dS):yEe a0=(fun n=>some ((n,()),())) (yJ a0):=zkV (p:=fun(n:(List Int))=>((n,()),())) (zkG (p:=fun(n:(List Int))=>((n,()),())) rfl rfl)
theorem ytr:ConOk prog 144 yj8:=(yRG).mono (fun x r _ h=>(yUR x.1).trans h)
abbrev ye (a:dA):Bool:=a.2.2.2.2.2.2.2.2.2.2.1
def yw2 (a:dA) (f:Int) (d:Bool):dA:=(a.1,a.2.1,a.2.2.1,a.2.2.2.1,a.2.2.2.2.1,a.2.2.2.2.2.1,a.2.2.2.2.2.2.1,a.2.2.2.2.2.2.2.1,a.2.2.2.2.2.2.2.2.1,f,d,a.2.2.2.2.2.2.2.2.2.2.2)
def opA (a:dA):Bool×dA:=bif ye a then(false,a)else bif a.2.2.2.2.2.2.2.2.2.1==0 then(false,yw2 a (-1) true)else bif ltb 0 a.2.2.2.2.2.2.2.2.2.1 then(true,yw2 a (i64.wrap (a.2.2.2.2.2.2.2.2.2.1-1)) (ye a))else(true,a)
def yjC (a:dA) (m:Int) (x:dM):dA:=(a.1,a.2.1,a.2.2.1.set m.toNat x,a.2.2.2)
def ydq (a:dA) (m n:Int) (s:List Int):dA:=bif(nth a.2.2.1 m yc).2.2.1 then a else bif(opA a).1 then yjC (opA a).2 m (yf9 (nth a.2.2.1 m yc) n s).1 else(opA a).2
def yM (a:dA) (i:Nat):dA:=bif(nth a.2.2.1 i yc).2.2.1 then a else bif(opA a).1 then yjC (opA a).2 i (yeW (nth a.2.2.1 i yc))else(opA a).2
def yz (a:dA):dA:=(List.range a.2.2.1.length).foldl yM a
def y8I (a:dA) (i:Int):dS:=(a.1,a.2.2.2.2.2.2.2.1,i,a.2.1.1,a.2.1.2,a.2.2.2.2.2.2.1,a.2.2.2.1,a.2.2.2.2.1)
def yaS (a:dA) (i:Nat):dA:=ydq a i (a.2.2.2.2.2.2.2.1.tmod 2) (yJ (y8I a i))
def yfR (a:dA):dA:=(a.1,a.2.1,a.2.2.1,a.2.2.2.1,a.2.2.2.2.1,a.2.2.2.2.2.1,a.2.2.2.2.2.2.1,i64.wrap (a.2.2.2.2.2.2.2.1+1),a.2.2.2.2.2.2.2.2)
def yao (a:dA):dA:=yz ((List.range a.2.2.1.length).foldl yaS (yfR a))
theorem yaT (a:dA):(opA a).2.2.2.1=a.2.2.1:=by
 unfold opA;cases ye a
 ·cases(a.2.2.2.2.2.2.2.2.2.1==0)
  ·cases ltb 0 a.2.2.2.2.2.2.2.2.2.1<;>rfl
  ·rfl
 ·rfl
theorem y2B {a:dA} (h:ye a=false):ye (opA a).2= !(opA a).1:=by
 unfold opA;rw[h];cases(a.2.2.2.2.2.2.2.2.2.1==0)
 ·cases ltb 0 a.2.2.2.2.2.2.2.2.2.1
  ·exact h
  ·rfl
 ·rfl
theorem y6M {a:dA} (h:ye a=true):opA a=(false,a):=by unfold opA; rw[h]; rfl
theorem yqk (a:dA) (m n:Int) (s:List Int):(ydq a m n s).2.2.1.length=a.2.2.1.length:=by
 unfold ydq;cases(nth a.2.2.1 m yc).2.2.1
 ·cases(opA a).1
  ·show(opA a).2.2.2.1.length=_; rw[yaT]
  ·show((opA a).2.2.2.1.set m.toNat _).length=_; rw[List.length_set,yaT]
 ·rfl
theorem ymH (a:dA) (i:Nat):(yM a i).2.2.1.length=a.2.2.1.length:=by
 unfold yM;cases(nth a.2.2.1 i yc).2.2.1
 ·cases(opA a).1
  ·show(opA a).2.2.2.1.length=_; rw[yaT]
  ·show((opA a).2.2.2.1.set _ _).length=_; rw[List.length_set,yaT]
 ·rfl
theorem yoL {one:dA→Nat→dA} (h: ∀a i,(one a i).2.2.1.length=a.2.2.1.length): ∀(l:List Nat) (a:dA),(l.foldl one a).2.2.1.length=a.2.2.1.length
 | [],_=>rfl
 | x::l,a=>by rw[List.foldl_cons,yoL h l,h]
theorem yHA (a:dA):(yz a).2.2.1.length=a.2.2.1.length:=yoL ymH _ _
theorem yVP {a:dA} (h:ye a=true) (m n:Int) (s:List Int):ydq a m n s=a:=by
 unfold ydq;rw[y6M h];cases(nth a.2.2.1 m yc).2.2.1<;>rfl
theorem yPl {a:dA} (i:Nat) (h:ye a=true):yM a i=a:=by
 unfold yM;rw[y6M h];cases(nth a.2.2.1 i yc).2.2.1<;>rfl
theorem yNu {one:dA→Nat→dA} (hs: ∀a i,ye a=true→one a i=a): ∀(l:List Nat) (a:dA),ye a=true→l.foldl one a=a
 | [],_,_=>rfl
 | x::l,a,h=>by rw[List.foldl_cons,hs a x h]; exact yNu hs l a h
theorem y3d {a:dA} (h:ye a=true):yz a=a:=yNu (fun _ i h=>yPl i h) _ a h
theorem y71 {a:dA} (h:ye a=false) (m n:Int) (s:List Int):ye (ydq a m n s)=(!(nth a.2.2.1 m yc).2.2.1&& !(opA a).1):=by
 have:=y2B h;unfold ydq;cases(nth a.2.2.1 m yc).2.2.1
 ·cases ho:(opA a).1
  ·rw[ho]at this; exact this
  ·rw[ho]at this; exact this
 ·exact h
theorem y56 {a:dA} (h:ye a=false) (i:Nat):ye (yM a i)=(!(nth a.2.2.1 i yc).2.2.1&& !(opA a).1):=by
 have:=y2B h;unfold yM;cases(nth a.2.2.1 i yc).2.2.1
 ·cases ho:(opA a).1
  ·rw[ho]at this; exact this
  ·rw[ho]at this; exact this
 ·exact h
theorem yGI {one:dA→Nat→dA} (hs: ∀a i,ye a=true→one a i=a): ∀(k i:Nat) (s:dA),goE (fun i s=>bif ye (one s i)then(.inr (one s i):dA ⊕ dA)else .inl (one s i)) id k i s=(List.range' i k).foldl one s
 | 0,_,_=>rfl
 | k+1,i,s=>by
  rw[List.range'_succ,List.foldl_cons,goE];cases hd:ye (one s i)
  ·exact yGI hs k (i+1) (one s i)
  ·exact(yNu hs _ _ hd).symm
def yby (a:dA) (m:Int):dA:=(a.1,a.2.1,a.2.2.1.set m.toNat (yub (nth a.2.2.1 m yc)),m,0,a.2.2.2.2.2)
def ywb (a:dA) (m:Int):dA:=(a.1,a.2.1,a.2.2.1.set m.toNat (yub (nth a.2.2.1 m yc)),a.2.2.2.1,a.2.2.2.2.1,a.2.2.2.2.2.1,a.2.2.2.2.2.2.1,a.2.2.2.2.2.2.2.1,a.2.2.2.2.2.2.2.2.1,a.2.2.2.2.2.2.2.2.2.1,a.2.2.2.2.2.2.2.2.2.2.1,true)
def yic (a:dA) (m:Int):dA:=bif a.2.2.2.1== -1||a.2.2.2.1==m then(bif !(ye a)&&(!a.2.2.2.2.2.2.2.2.2.2.2&&ltb a.2.2.2.2.2.2.2.1 60000)then yao (yby a m)else yby a m)else ywb a m
theorem y5Y {a:dA} {m n:Int} {s:List Int} (h:yap a.2.2.1) (hm:inb m a.2.2.1.length=true):yap (ydq a m n s).2.2.1:=by
 unfold ydq;cases(nth a.2.2.1 m yc).2.2.1
 ·cases(opA a).1
  ·show yap (opA a).2.2.2.1; rw[yaT]; exact h
  ·show yap ((opA a).2.2.2.1.set m.toNat _); rw[yaT]; exact ywB h (yV4 _ _ (yOV h hm))
 ·exact h
theorem y57 {a:dA} {i:Nat} (h:yap a.2.2.1) (hi:i<a.2.2.1.length):yap (yM a i).2.2.1:=by
 unfold yM;cases(nth a.2.2.1 i yc).2.2.1
 ·cases(opA a).1
  ·show yap (opA a).2.2.2.1; rw[yaT]; exact h
  ·show yap ((opA a).2.2.2.1.set _ _); rw[yaT]; exact ywB h (yS1 (yOV h (zkR hi)))
 ·exact h
theorem yNt {one:dA→Nat→dA} (hl: ∀a i,(one a i).2.2.1.length=a.2.2.1.length) (ho: ∀a i,yap a.2.2.1→i<a.2.2.1.length→yap (one a i).2.2.1): ∀(n:Nat) (a:dA),n≤a.2.2.1.length→yap a.2.2.1→yap ((List.range n).foldl one a).2.2.1
 | 0,_,_,h=>h
 | n+1,a,hn,h=>by
  rw[List.range_succ,List.foldl_append];exact ho _ _ (yNt hl ho n a (by omega) h) (by rw[yoL hl]; exact hn)
theorem yJo {a:dA} (h:yap a.2.2.1):yap (yz a).2.2.1:=yNt ymH (fun _ _=>y57) _ a (Nat.le_refl _) h
theorem y23 {a:dA} (h:yap a.2.2.1):yap (yao a).2.2.1 :=yJo (yNt (one:=yaS) (fun _ _=>yqk _ _ _ _) (fun _ _ h hi=>y5Y h (zkR hi)) _ (yfR a) (Nat.le_refl _) h)
theorem yGM (a:dA):(yao a).2.2.1.length=a.2.2.1.length:=(yHA _).trans (yoL (one:=yaS) (fun _ _=>yqk _ _ _ _) _ (yfR a))
theorem yLz (a:dA):(opA a).2.2.2.2.2.2.2.2.2.1=a.2.2.2.2.2.2.2.2.1:=by
 unfold opA;cases ye a
 ·cases(a.2.2.2.2.2.2.2.2.2.1==0)
  ·cases ltb 0 a.2.2.2.2.2.2.2.2.2.1<;>rfl
  ·rfl
 ·rfl
theorem y3b (a:dA) (m n:Int) (s:List Int):(ydq a m n s).2.2.2.2.2.2.2.2.1=a.2.2.2.2.2.2.2.2.1:=by
 unfold ydq;cases(nth a.2.2.1 m yc).2.2.1
 ·cases(opA a).1
  ·exact yLz a
  ·exact yLz a
 ·rfl
theorem y4Z (a:dA) (i:Nat):(yM a i).2.2.2.2.2.2.2.2.1=a.2.2.2.2.2.2.2.2.1:=by
 unfold yM;cases(nth a.2.2.1 i yc).2.2.1
 ·cases(opA a).1
  ·exact yLz a
  ·exact yLz a
 ·rfl
theorem yK2 {one:dA→Nat→dA} (h: ∀a i,(one a i).2.2.2.2.2.2.2.2.1=a.2.2.2.2.2.2.2.2.1): ∀(l:List Nat) (a:dA),(l.foldl one a).2.2.2.2.2.2.2.2.1=a.2.2.2.2.2.2.2.2.1
 | [],_=>rfl
 | x::l,a=>by rw[List.foldl_cons,yK2 h l,h]
theorem yEB (a:dA):(yz a).2.2.2.2.2.2.2.2.1=a.2.2.2.2.2.2.2.2.1:=yK2 y4Z _ _
theorem yX9 (a:dA):(yao a).2.2.2.2.2.2.2.2.1=a.2.2.2.2.2.2.2.2.1:=(yEB _).trans (yK2 (one:=yaS) (fun _ _=>y3b _ _ _ _) _ (yfR a))
theorem y5y {a:dA} (h:yE a=true):a.2.2.1.length≤5:=by
 have h1:=yk.1 (yjf h);have h2:=yz3 h;omega
theorem ySi {a:dA} {m:Int} (h:yap a.2.2.1) (hm:inb m a.2.2.1.length=true):yap (yby a m).2.2.1∧(yby a m).2.2.1.length=a.2.2.1.length:=⟨ywB h (y0X (yOV h hm)),List.length_set⟩
def ycB (n:Int):dM:=bif leb 1 n&&leb n 20 then(List.replicate n.toNat [],[],false,[])else yc
theorem yIJ {n:Int} (h1:1≤n) (h2:n≤20):yu (ycB n)=true:=by
 unfold ycB;rw[zk2 h1,zk2 h2];refine yzk ?_ rfl rfl ?_ ?_ (Nat.zero_le _)
 ·show(List.replicate n.toNat ([]:List Int)).all yam=true
  rw[List.all_eq_true];intro x hx;rw[(List.mem_replicate.1 hx).2]; rfl
 ·show 1≤(List.replicate n.toNat ([]:List Int)).length; rw[List.length_replicate]; omega
 ·show(List.replicate n.toNat ([]:List Int)).length≤20; rw[List.length_replicate]; omega
def yd0 (a:dA):dA:=(a.1,a.2.1,a.2.2.1.set a.2.2.2.1.toNat (ycB (6+a.2.1.2)),a.2.2.2.1,0,a.2.2.2.2.2)
theorem y7K {a:dA} (h:yE a=true): -1≤a.2.2.2.1∧a.2.2.2.1≤a.2.1.1-1:=by
 simp only[yE,Bool.and_eq_true,zj7]at h;exact h.2.2.2.2.1
def ycE (a:dA):dA:=(a.1,a.2.1,a.2.2.1,a.2.2.2.1,a.2.2.2.2.1,a.2.2.2.2.2.1,a.2.2.2.2.2.1,a.2.2.2.2.2.2.2)
def yZ (a:dA):dA:=bif ye (yz a)then yz a else yao (ycE (yz a))
theorem y6T {a:dA} (h:yap a.2.2.1):yap (yZ a).2.2.1:=by
 unfold yZ;cases ye (yz a)
 ·exact y23 (a:=ycE (yz a)) (yJo h)
 ·exact yJo h
theorem yIa (a:dA):(yZ a).2.2.1.length=a.2.2.1.length:=by
 unfold yZ;cases ye (yz a)
 ·exact(yGM (ycE (yz a))).trans (yHA a)
 ·exact yHA a
theorem ySe (a:dA):(yZ a).2.2.2.2.2.2.2.2.1=a.2.2.2.2.2.2.2.2.1:=by
 unfold yZ;cases ye (yz a)
 ·exact(yX9 (ycE (yz a))).trans (yEB a)
 ·exact yEB a
def y8v (id:Int) (g:dG) (i:Int):dS:=(id,0,i,g.1,g.2,0,-1,0)
def yKo (m:dM) (s:Nat):dM:=(m.1.set (s+6) [0],m.2)
def yA6 (id:Int) (g:dG) (i:Int):dM:=((ycB (6+g.2)).1.set 0 (yJ (y8v id g i)),(ycB (6+g.2)).2)
def yO (id:Int) (g:dG) (i:Int):dM:=(List.range g.2.toNat).foldl yKo (yA6 id g i)
def yFG (a:dA) (m:dM):dA:=(a.1,a.2.1,a.2.2.1++ [m],a.2.2.2)
def yFH (id:Int) (g:dG):dA:=(id,g,[],-1,0,0,0,0,[],-1,false,false)
def yz2 (id:Int) (g:dG):dA:=bif yf g&&(leb 1 id&&leb id 60000)then(List.range g.1.toNat).foldl (fun a (i:Nat)=>yFG a (yO id g i)) (yFH id g)else yK
theorem y6o (l:List Nat) (m:dM):(l.foldl yKo m).1.length=m.1.length:=by
 induction l generalizing m with
 | nil=>rfl
 | cons x t ih=>rw[List.foldl_cons,ih]; show(m.1.set _ _).length=_; rw[List.length_set]
def yG (a:dA):Int×(Int×Int)×Int×Int×Int×Int×Int×List dW×Bool:=(a.1,a.2.1,a.2.2.2.1,a.2.2.2.2.1,a.2.2.2.2.2.1,a.2.2.2.2.2.2.1,a.2.2.2.2.2.2.2.1,a.2.2.2.2.2.2.2.2.1,a.2.2.2.2.2.2.2.2.2.2.2)
theorem yKF (a:dA):yG (opA a).2=yG a:=by
 unfold opA;cases ye a
 ·cases(a.2.2.2.2.2.2.2.2.2.1==0)
  ·cases ltb 0 a.2.2.2.2.2.2.2.2.2.1<;>rfl
  ·rfl
 ·rfl
theorem ytt (a:dA) (m n:Int) (s:List Int):yG (ydq a m n s)=yG a:=by
 unfold ydq;cases(nth a.2.2.1 m yc).2.2.1
 ·cases(opA a).1
  ·exact yKF a
  ·exact yKF a
 ·rfl
theorem y55 (a:dA) (i:Nat):yG (yM a i)=yG a:=by
 unfold yM;cases(nth a.2.2.1 i yc).2.2.1
 ·cases(opA a).1
  ·exact yKF a
  ·exact yKF a
 ·rfl
theorem yAE {one:dA→Nat→dA} (h: ∀a i,yG (one a i)=yG a): ∀(l:List Nat) (a:dA),yG (l.foldl one a)=yG a
 | [],_=>rfl
 | x::l,a=>by rw[List.foldl_cons,yAE h l,h]
theorem ylh (a:dA):yG (yz a)=yG a:=yAE y55 _ _
theorem ygX (a:dA):yG (yao a)=yG (yfR a):=(ylh _).trans (yAE (one:=yaS) (fun _ _=>ytt _ _ _ _) _ _)
theorem ycW {a b:dA} (h:yG a=yG b):a.2.1=b.2.1:=congrArg (fun x=>x.2.1) h
theorem yXf {a b:dA} (h:yG a=yG b):a.2.2.2.2.1=b.2.2.2.2.1:=congrArg (fun x=>x.2.2.2.1) h
theorem yXg {a b:dA} (h:yG a=yG b):a.2.2.2.2.2.2.2.2.1=b.2.2.2.2.2.2.2.2.1:=congrArg (fun x=>x.2.2.2.2.2.2.2.1) h
def yaI (d:List dW) (x:dA):Prop:=x.2.2.1.length≤5∧yap x.2.2.1∧x.2.2.2.2.2.2.2.2.1=d
theorem yUw {a:dA} (h:yE a=true):yaI a.2.2.2.2.2.2.2.2.1 a:=⟨y5y h,yKY h,rfl⟩
theorem yUx {d:List dW} {a:dA} {m n:Int} {s:List Int} (h:yaI d a) (hm:inb m a.2.2.1.length=true):yaI d (ydq a m n s):=⟨by rw[yqk]; exact h.1,y5Y h.2.1 hm,(y3b _ _ _ _).trans h.2.2⟩
theorem y7x {d:List dW} {a:dA} (h:yaI d a):yaI d (yz a):=⟨by rw[yHA]; exact h.1,yJo h.2.1,(yEB _).trans h.2.2⟩
theorem y7v {d:List dW} {a:dA} (h:yaI d a):yaI d (yao a):=⟨by rw[yGM]; exact h.1,y23 h.2.1,(yX9 _).trans h.2.2⟩
theorem yLq {d:List dW} {a:dA} (h:yaI d a):yaI d (yZ a):=⟨by rw[yIa]; exact h.1,y6T h.2.1,(ySe _).trans h.2.2⟩
def y7A (b:dA):dA:=(b.1,b.2.1,b.2.2.1,b.2.2.2.1,i64.wrap (b.2.2.2.2.1+1),b.2.2.2.2.2)
def yag (a:dA):dA:=ydq a a.2.2.2.1 (ycA a.2.2.2.2.1) [nth (yaA a a.2.2.2.2.1).1 a.2.2.2.1 0]
def yld (a:dA):Int×dA:=bif(yaA a a.2.2.2.2.1).2 then(bif ye (yag a)then(6,yag a)else(0,y7A (yag a)))else(5,a)
theorem y7w {d:List dW} {a:dA} (h:yaI d a) (hl:inb a.2.2.2.1 a.2.2.1.length=true):yaI d (yld a).2:=by
 unfold yld;have hp:yaI d (yag a):=yUx h hl;cases(yaA a a.2.2.2.2.1).2
 ·exact h
 ·cases ye (yag a)
  ·exact hp
  ·exact hp
def yGN (lost:Int) (br:Bool) (S:Int) (i:Nat) (m:dM):Prop:=yu m=true∧(m.1.length:Int)=6+S∧(m.2.2.1=true→(i:Int)=lost∨br=true)
def yLc (lost:Int) (br:Bool) (S:Int) (l:List dM):Prop:= ∀i,i<l.length→yGN lost br S i (nth l i yc)
theorem yAX {lost S:Int} {br:Bool} {l:List dM} {i:Nat} {x:dM} (h:yLc lost br S l) (hx:i<l.length→yGN lost br S i x):yLc lost br S (l.set i x):=fun j hj=>by
 rw[List.length_set]at hj;by_cases e:j=i
 ·subst e
  rw[zkS,zkJ (by rw[List.length_set]; exact hj),List.getElem_set_self]; exact hx hj
 ·have:=h j hj
  rw[zkS,zkJ hj]at this;rw[zkS,zkJ (by rw[List.length_set]; exact hj),List.getElem_set_ne (fun e'=>e e'.symm)]; exact this
theorem y62 {a:dA}:yml a=true↔yLc a.2.2.2.1 a.2.2.2.2.2.2.2.2.2.2.2 a.2.1.2 a.2.2.1∧(a.2.2.1.length:Int)=a.2.1.1:=by
 constructor
 ·intro h
  refine⟨fun i hi=>y24 h hi,?_⟩;simp only[yml,Bool.and_eq_true,beq_iff_eq]at h; exact h.2
 ·rintro⟨h1,h2⟩
  simp only[yml,Bool.and_eq_true,beq_iff_eq,Bool.not_eq_true',List.any_eq_false,List.mem_range];refine⟨fun i hi=> ?_,h2⟩;obtain⟨g1,g2,g3⟩:=h1 i hi;unfold yhL;rw[g1,show(((nth a.2.2.1 i yc).1.length:Int) !=6+a.2.1.2)=false from bne_eq_false_iff_eq.2 g2];cases hf:(nth a.2.2.1 i yc).2.2.1
  ·simp
  ·rcases g3 hf with e | e
   ·rw[show((i:Int) !=a.2.2.2.1)=false from bne_eq_false_iff_eq.2 e]; simp
   ·rw[e]; simp
def fuz (a:dA):Int:=a.2.2.2.2.2.2.2.2.2.1
def yH (a:dA):Prop:=(yLc a.2.2.2.1 a.2.2.2.2.2.2.2.2.2.2.2 a.2.1.2 a.2.2.1∧(a.2.2.1.length:Int)=a.2.1.1)∧ -1≤fuz a∧fuz a≤1000
def yc8 (a:dA):Prop:=yf a.2.1=true∧(1≤a.1∧a.1≤60000)∧yaC a.2.1 a.2.2.2.2.2.2.2.2.1=true∧(-1≤a.2.2.2.1∧a.2.2.2.1≤a.2.1.1-1)∧(0≤a.2.2.2.2.1∧a.2.2.2.2.1≤a.2.1.2)∧(a.2.2.2.1= -1→a.2.2.2.2.1=0) ∧ (0≤a.2.2.2.2.2.2.1∧a.2.2.2.2.2.2.1≤60000)∧(a.2.2.2.2.2.2.1≤a.2.2.2.2.2.1∧a.2.2.2.2.2.1≤60000)∧a.2.2.2.2.2.1≤a.2.2.2.2.2.2.1+4∧0≤a.2.2.2.2.2.2.2.1∧a.2.2.2.2.2.2.2.1≤60000
theorem yy7 {a:dA}:yE a=true↔yc8 a∧yH a:=by
 unfold yE yc8 yH fuz;simp only[Bool.and_eq_true,zj7,y62,Bool.not_eq_true',Bool.and_eq_false_iff,beq_eq_false_iff_ne,bne_eq_false_iff_eq];constructor
 ·rintro⟨h1,h2,h3,h4,h5,h6,h7,h8,h9,h10,h11,h12⟩
  exact⟨⟨h1,h2,h4,h5,h6,fun e=>h7.resolve_left (fun g=>g e),h8,h9,h10,h11.1,h11.2⟩,h3,h12⟩
 ·rintro⟨⟨h1,h2,h4,h5,h6,h7,h8,h9,h10,h11,h11'⟩,h3,h12⟩
  exact⟨h1,h2,h3,h4,h5,h6,(Decidable.em (a.2.2.2.1= -1)).elim (fun e=> .inr (h7 e)) (fun e=> .inl e),h8,h9,h10,⟨h11,h11'⟩,h12⟩
theorem y6z {a b:dA} (h:yG b=yG a) (ha:yc8 a):yc8 b:=by
 unfold yG at h;simp only[Prod.mk.injEq]at h;obtain⟨h1,h2,h3,h4,h5,h6,h7,h8,h9⟩:=h;unfold yc8 at *;rw[h1,h2,h3,h4,h5,h6,h7,h8]; exact ha
theorem y8h {a b:dA} (h:yG b=yG a) (hl:b.2.2.1.length=a.2.2.1.length) (hm:yLc a.2.2.2.1 a.2.2.2.2.2.2.2.2.2.2.2 a.2.1.2 b.2.2.1) (hn:(a.2.2.1.length:Int)=a.2.1.1) (hf: -1≤fuz b∧fuz b≤1000):yH b:=by
 unfold yG at h;simp only[Prod.mk.injEq]at h;obtain⟨h1,h2,h3,h4,h5,h6,h7,h8,h9⟩:=h;unfold yH;rw[h2,h3,h9,hl]; exact⟨⟨hm,hn⟩,hf⟩
theorem y8w {a:dA} (h: -1≤fuz a∧fuz a≤1000): -1≤fuz (opA a).2∧fuz (opA a).2≤1000:=by
 unfold opA;cases ye a
 ·cases h0:(a.2.2.2.2.2.2.2.2.2.1==0)
  ·cases h1:ltb 0 a.2.2.2.2.2.2.2.2.2.1
   ·exact h
   ·have:=zka.1 h1
    unfold fuz at h;show -1≤i64.wrap (a.2.2.2.2.2.2.2.2.2.1-1)∧i64.wrap (a.2.2.2.2.2.2.2.2.2.1-1)≤1000;rw[wr (by omega) (by omega)]; omega
  ·show -1≤(-1:Int)∧(-1:Int)≤1000; omega
 ·exact h
theorem yPs {a:dA} (h:yH a):yH (opA a).2:=y8h (yKF a) (by rw[yaT]) (by rw[yaT]; exact h.1.1) h.1.2 (y8w h.2)
theorem yzT {a:dA} {m:Int} {x:dM} (h:yH a) (hm:inb m a.2.2.1.length=true) (hx:yGN a.2.2.2.1 a.2.2.2.2.2.2.2.2.2.2.2 a.2.1.2 m.toNat (nth a.2.2.1 m yc)→yGN a.2.2.2.1 a.2.2.2.2.2.2.2.2.2.2.2 a.2.1.2 m.toNat x):yH (yjC a m x):=by
 have hm:=zj6.1 hm;refine⟨⟨yAX h.1.1 (fun hi=>hx ?_),by show((a.2.2.1.set m.toNat x).length:Int)=_; rw[List.length_set]; exact h.1.2⟩,h.2⟩;have:=h.1.1 m.toNat hi;rwa[Int.toNat_of_nonneg hm.1]at this
theorem y61 {lost S:Int} {br:Bool} {i:Nat} {m:dM} (n:Int) (s:List Int) (h:yGN lost br S i m):yGN lost br S i (yf9 m n s).1 :=
 ⟨yV4 n s h.1,by rw[(y3j m n s).1]; exact h.2.1,by rw[(y3j m n s).2]; exact h.2.2⟩
theorem y60 {lost S:Int} {br:Bool} {i:Nat} {m:dM} (h:yGN lost br S i m):yGN lost br S i (yeW m) :=
 ⟨yS1 h.1,by rw[(y2Y m).1]; exact h.2.1,by rw[(y2Y m).2]; exact h.2.2⟩
theorem yGK {a:dA} {m n:Int} {s:List Int} (h:yH a) (hm:inb m a.2.2.1.length=true):yH (ydq a m n s):=by
 unfold ydq;cases(nth a.2.2.1 m yc).2.2.1
 ·cases(opA a).1
  ·exact yPs h
  ·exact yzT (yPs h) (by rw[yaT]; exact hm) (fun g=>by rw[yaT]at g; exact y61 _ _ g)
 ·exact h
theorem y5L {a:dA} {i:Nat} (h:yH a) (hi:i<a.2.2.1.length):yH (yM a i):=by
 unfold yM;cases(nth a.2.2.1 i yc).2.2.1
 ·cases(opA a).1
  ·exact yPs h
  ·exact yzT (yPs h) (by rw[yaT]; exact zkR hi) (fun g=>by rw[yaT]at g; exact y60 g)
 ·exact h
theorem ylK {P:dA→Prop} {one:dA→Nat→dA} (hl: ∀a i,(one a i).2.2.1.length=a.2.2.1.length) (ho: ∀a i,P a→i<a.2.2.1.length→P (one a i)): ∀(n:Nat) (a:dA),n≤a.2.2.1.length→P a→P ((List.range n).foldl one a)
 | 0,_,_,h=>h
 | n+1,a,hn,h=>by
  rw[List.range_succ,List.foldl_append];exact ho _ _ (ylK hl ho n a (by omega) h) (by rw[yoL hl]; exact hn)
theorem yAW {a:dA} (h:yH a):yH (yz a):=ylK (P:=yH) (one:=yM) ymH (fun _ _=>y5L) _ a (Nat.le_refl _) h
theorem yIH {a:dA} (h:yH a):yH (yao a) :=yAW (ylK (P:=yH) (one:=yaS) (fun _ _=>yqk _ _ _ _) (fun _ _ h hi=>yGK h (zkR hi)) _ (yfR a) (Nat.le_refl _) h)
theorem yX7 {a:dA} (h:yH a):yH (yZ a):=by
 unfold yZ;cases ye (yz a)
 ·exact yIH (a:=ycE (yz a)) (yAW h)
 ·exact yAW h
def yjE (a:dA):Prop:=ye a=false∧fuz a= -1
theorem y6L {a:dA} (h:yjE a):opA a=(true,a):=by
 unfold opA;rw[h.1,show a.2.2.2.2.2.2.2.2.2.1= -1 from h.2]; rfl
theorem yK9 {a:dA} (h:yjE a) (m n:Int) (s:List Int):yjE (ydq a m n s):=by
 unfold ydq;rw[y6L h];cases(nth a.2.2.1 m yc).2.2.1<;>exact h
theorem y5H {a:dA} (h:yjE a) (i:Nat):yjE (yM a i):=by
 unfold yM;rw[y6L h];cases(nth a.2.2.1 i yc).2.2.1<;>exact h
theorem yIB {a:dA} (h:yjE a):yjE (yz a):=ylK (P:=yjE) (one:=yM) ymH (fun _ i h _=>y5H h i) _ a (Nat.le_refl _) h
theorem y7q {a:dA} (h:yjE a):yjE (yao a) :=yIB (ylK (P:=yjE) (one:=yaS) (fun _ _=>yqk _ _ _ _) (fun _ _ h _=>yK9 h _ _ _) _ (yfR a) (Nat.le_refl _) h)
theorem yXe {a:dA} (h:yjE a):yZ a=yao (ycE (yz a)):=by
 unfold yZ;rw[(yIB h).1]; rfl
def Wk (k:Int) (a:dA):Prop:=yc8 a∧yH a∧yjE a∧a.2.2.2.2.2.2.2.2.2.2.2=false∧a.2.2.2.2.2.2.2.1≤k
theorem y7C {k:Int} {a:dA} (h:Wk k a):yE a=true:=yy7.2 ⟨h.1,h.2.1⟩
theorem yej {k j:Int} {a:dA} (h:Wk k a) (hj:k≤j):Wk j a:=⟨h.1,h.2.1,h.2.2.1,h.2.2.2.1,Int.le_trans h.2.2.2.2 hj⟩
theorem yEE {k:Int} {a b:dA} (hc:yG b=yG a) (hk:yH b) (hf:yjE b) (h:Wk k a):Wk k b:=by
 refine⟨y6z hc h.1,hk,hf,?_⟩;unfold yG at hc;simp only[Prod.mk.injEq]at hc;obtain⟨_,_,_,_,_,_,h7,_,h9⟩:=hc;rw[h7,h9]; exact h.2.2.2
theorem y8E {k:Int} {a:dA} {m n:Int} {s:List Int} (h:Wk k a) (hm:inb m a.2.2.1.length=true):Wk k (ydq a m n s):=yEE (ytt _ _ _ _) (yGK h.2.1 hm) (yK9 h.2.2.1 _ _ _) h
theorem y8n {k:Int} {a:dA} (h:Wk k a):Wk k (yz a):=yEE (ylh _) (yAW h.2.1) (yIB h.2.2.1) h
theorem y75 {k:Int} {a:dA} (h:Wk k a) (hk:k+1≤60000):Wk (k+1) (yfR a):=by
 obtain⟨⟨c1,c2,c3,c4,c5,c6,c7,c8,c9,c10,c11⟩,h2,h3,h4,h5⟩:=h;have e:i64.wrap (a.2.2.2.2.2.2.2.1+1)=a.2.2.2.2.2.2.2.1+1:=wr (by omega) (by omega);refine⟨⟨c1,c2,c3,c4,c5,c6,c7,c8,c9,?_,?_⟩,h2,h3,h4,?_⟩
 ·show 0≤i64.wrap (a.2.2.2.2.2.2.2.1+1); omega
 ·show i64.wrap (a.2.2.2.2.2.2.2.1+1)≤_; omega
 ·show i64.wrap (a.2.2.2.2.2.2.2.1+1)≤_; omega
theorem y2L {k:Int} {a:dA} (h:Wk k a) (hk:k+1≤60000):Wk (k+1) (yao a):=yEE (ygX _) (yIH h.2.1) (y7q h.2.2.1) (y75 h hk)
theorem y7E {k:Int} {a:dA} (h:Wk k a):Wk k (ycE a):=by
 obtain⟨⟨c1,c2,c3,c4,c5,c6,c7,c8,c9,c10,c11⟩,h2,h3,h4,h5⟩:=h;refine⟨⟨c1,c2,c3,c4,c5,c6,⟨?_,?_⟩,⟨Int.le_refl _,c8.2⟩,?_,c10,c11⟩,h2,h3,h4,h5⟩
 ·show 0≤a.2.2.2.2.2.1; omega
 ·show a.2.2.2.2.2.1≤60000; omega
 ·show a.2.2.2.2.2.1≤a.2.2.2.2.2.1+4; omega
theorem y6a {k:Int} {a:dA} (h:Wk k a) (hk:k+1≤60000):Wk (k+1) (yZ a):=by
 rw[yXe h.2.2.1]; exact y2L (y7E (y8n h)) hk
theorem y7D {k:Int} {a:dA} {m:Int} {x:dM} (h:Wk k a) (hm:inb m a.2.2.1.length=true) (hx:yGN a.2.2.2.1 a.2.2.2.2.2.2.2.2.2.2.2 a.2.1.2 m.toNat (nth a.2.2.1 m yc)→yGN a.2.2.2.1 a.2.2.2.2.2.2.2.2.2.2.2 a.2.1.2 m.toNat x):Wk k (yjC a m x) :=yEE (a:=a) (b:=yjC a m x) rfl (yzT h.2.1 hm hx) h.2.2.1 h
theorem y8l {k m:Int} {a:dA} (h:Wk k a) (hl:a.2.2.2.1= -1) (hm:inb m a.2.2.1.length=true) (hk:k+1≤60000):Wk (k+1) (yic a m):=by
 have hmi:=zj6.1 hm
 have hw:Wk k (yby a m):=by
  obtain⟨⟨c1,c2,c3,c4,c5,c6,c7,c8,c9,c10,c11⟩,⟨⟨g1,g2⟩,g3⟩,f,b,t⟩:=h;refine⟨⟨c1,c2,c3,⟨?_,?_⟩,⟨Int.le_refl _,by show(0:Int)≤a.2.1.2; omega⟩,fun e=>rfl,c7,c8,c9,c10,c11⟩,⟨⟨?_,?_⟩,g3⟩,f,b,t⟩
  ·show -1≤m; omega
  ·show m≤a.2.1.1-1; omega
  ·show yLc m a.2.2.2.2.2.2.2.2.2.2.2 a.2.1.2 (a.2.2.1.set m.toNat (yub (nth a.2.2.1 m yc)))
   refine yAX (fun i hi=> ?_) (fun hi=> ?_)
   ·obtain⟨e1,e2,e3⟩:=g1 i hi
    refine⟨e1,e2,fun e=> ?_⟩;rcases e3 e with e | e
    ·omega
    ·exact .inr e
   ·have:=g1 m.toNat hi
    rw[Int.toNat_of_nonneg hmi.1]at this;exact⟨y0X this.1,this.2.1,fun _=> .inl (Int.toNat_of_nonneg hmi.1)⟩
  ·show((a.2.2.1.set m.toNat (yub (nth a.2.2.1 m yc))).length:Int)=a.2.1.1
   rw[List.length_set]; exact g2
 unfold yic;rw[show(a.2.2.2.1== -1)=true from beq_iff_eq.2 hl,h.2.2.1.1,h.2.2.2.1];cases ltb a.2.2.2.2.2.2.2.1 60000
 ·exact yej hw (by omega)
 ·exact y2L hw hk
theorem y77 {k:Int} {a:dA} (h:Wk k a) (hl:inb a.2.2.2.1 a.2.2.1.length=true) (hk:k+1≤60000):Wk (k+1) (yao (yd0 a)):=by
 have hmi:=zj6.1 hl;refine y2L ?_ hk;obtain⟨⟨c1,c2,c3,c4,c5,c6,c7,c8,c9,c10,c11⟩,⟨⟨g1,g2⟩,g3⟩,f,b,t⟩:=h;have hg:=yk.1 c1;refine⟨⟨c1,c2,c3,c4,⟨Int.le_refl _,by show(0:Int)≤a.2.1.2; omega⟩,fun e=>rfl,c7,c8,c9,c10,c11⟩,⟨⟨yAX g1 (fun hi=>⟨yIJ (by omega) (by omega),?_,fun e=> ?_⟩),?_⟩,g3⟩,f,b,t⟩
 ·unfold ycB
  rw[zk2 (show 1≤6+a.2.1.2 by omega),zk2 (show 6+a.2.1.2≤20 by omega)];show((List.replicate (6+a.2.1.2).toNat ([]:List Int)).length:Int)=6+a.2.1.2;rw[List.length_replicate]; omega
 ·unfold ycB at e
  rw[zk2 (show 1≤6+a.2.1.2 by omega),zk2 (show 6+a.2.1.2≤20 by omega)]at e;cases e
 ·show((a.2.2.1.set a.2.2.2.1.toNat (ycB (6+a.2.1.2))).length:Int)=a.2.1.1
  rw[List.length_set]; exact g2
theorem y8m {k:Int} {a:dA} (h:Wk k a) (hl:inb a.2.2.2.1 a.2.2.1.length=true) (hb:a.2.2.2.2.1<a.2.1.2):Wk k (yld a).2:=by
 have hp:Wk k (yag a):=y8E h hl;have e:=ytt a a.2.2.2.1 (ycA a.2.2.2.2.1) [nth (yaA a a.2.2.2.2.1).1 a.2.2.2.1 0];have e1:(yag a).2.2.2.2.1=a.2.2.2.2.1:=yXf e;have e2:(yag a).2.1=a.2.1:=ycW e;have e3:(yag a).2.2.2.1=a.2.2.2.1:=congrArg (fun x=>x.2.2.1) e;unfold yld;cases(yaA a a.2.2.2.2.1).2
 ·exact h
 ·generalize yag a=R at hp e1 e2 e3 ⊢
  rw[hp.2.2.1.1];have hmi:=zj6.1 hl;obtain⟨⟨c1,c2,c3,c4,c5,c6,c7,c8,c9,c10,c11⟩,g2,g3,g4,g5⟩:=hp;have hg:=yk.1 c1;have e4:i64.wrap (R.2.2.2.2.1+1)=R.2.2.2.2.1+1:=wr (by omega) (by omega);refine⟨⟨c1,c2,c3,c4,⟨?_,?_⟩,fun e=> ?_,c7,c8,c9,c10,c11⟩,g2,g3,g4,g5⟩
  ·show 0≤i64.wrap (R.2.2.2.2.1+1); omega
  ·show i64.wrap (R.2.2.2.2.1+1)≤R.2.1.2; rw[e4,e1,e2]; omega
  ·have:R.2.2.2.1= -1:=e
   omega
def yfO (a:dA):Prop:=a.2.2.1.length≤1000000000∧(∀m∈a.2.2.1,m.1.length≤1000000000∧m.2.1.length≤1000000000)∧a.2.2.2.2.2.2.2.2.1.length≤1000000000
theorem y5N {d:List dW} {a:dA} (h:yaI d a) (hd:d.length≤1000000000):yfO a:=by
 refine⟨by have:=h.1; omega,fun m hm=> ?_,by rw[h.2.2]; exact hd⟩;obtain⟨_,_,_,_,h5,h6⟩:=yay (h.2.1 m hm);omega
theorem y7h {a b:dA} (h:yG a=yG b):a.2.2.2.1=b.2.2.2.1:=congrArg (fun x=>x.2.2.1) h
theorem y5Z (s:dS):yam (yJ s)=true:=by
 unfold yJ;cases h:yC s
 ·rfl
 ·unfold yC at h
  simp only[ybm]at h;cases hg:yf (s.2.2.2.1,s.2.2.2.2.1)
  ·rw[hg]at h; cases h
  have hge:=yk.1 hg;simp only at hge;rw[hg,wq (s.2.2.2.1-1) (by omega) (by omega)]at h;cases h2:(leb 1 s.1&&leb s.1 60000)
  ·rw[h2]at h; cases h
  cases h3:(leb 0 s.2.1&&leb s.2.1 60000)
  ·rw[h2,h3]at h; cases h
  cases h4:(leb 0 s.2.2.1&&leb s.2.2.1 (s.2.2.2.1-1))
  ·rw[h2,h3,h4]at h; cases h
  cases h5:(leb 0 s.2.2.2.2.2.1&&leb s.2.2.2.2.2.1 60000)
  ·rw[h2,h3,h4,h5]at h; cases h
  cases h6:(leb (-1) s.2.2.2.2.2.2.1&&leb s.2.2.2.2.2.2.1 (s.2.2.2.1-1))
  ·rw[h2,h3,h4,h5,h6]at h; cases h
  cases h7:(leb 0 s.2.2.2.2.2.2.2&&leb s.2.2.2.2.2.2.2 s.2.2.2.2.1)
  ·rw[h2,h3,h4,h5,h6,h7]at h; cases h
  simp only[Bool.and_eq_true,zj7]at h2 h3 h4 h5 h6 h7;rw[y7z];refine⟨by show(9:Nat)≤12; omega,?_⟩;have hw:i64.wrap (s.2.2.2.2.2.2.1+1)=s.2.2.2.2.2.2.1+1:=wr (by omega) (by omega);simp only[Bool.not_true,cond_false,hw,List.mem_cons,List.not_mem_nil,or_false]
  rintro x (rfl | rfl | rfl | rfl | rfl | rfl | rfl | rfl | rfl)<;>omega
theorem y64 {g:dG} (id i:Int) (hg:yf g=true):yu (yO id g i)=true∧((yO id g i).1.length:Int)=6+g.2∧(yO id g i).2=([],false,[]):=by
 have hge:=yk.1 hg
 have hm:ycB (6+g.2)=(List.replicate (6+g.2).toNat [],[],false,[]):=by
  unfold ycB;rw[zk2 (show 1≤6+g.2 by omega),zk2 (show 6+g.2≤20 by omega)]; rfl
 have key: ∀(l:List Nat) (m:dM),m.1.all yam=true∧m.2=([],false,[])→(l.foldl yKo m).1.all yam=true∧(l.foldl yKo m).2=([],false,[]):=by
  intro l
  induction l with
  | nil=>intro m h; exact h
  | cons x t ih =>
   intro m h;refine ih _ ⟨?_,h.2⟩;rw[List.all_eq_true];intro y hy;rcases List.mem_or_eq_of_mem_set hy with h1 | rfl
   ·exact List.all_eq_true.1 h.1 y h1
   ·rfl
 have ht:(yA6 id g i).1.all yam=true∧(yA6 id g i).2=([],false,[]):=by
  unfold yA6;rw[hm];refine⟨?_,rfl⟩;rw[List.all_eq_true];intro y hy;rcases List.mem_or_eq_of_mem_set hy with h1 | rfl
  ·rw[List.eq_of_mem_replicate h1]; rfl
  ·exact y5Z _
 have hl:((yO id g i).1.length:Int)=6+g.2:=by
  unfold yO;rw[y6o];unfold yA6;rw[hm];show(((List.replicate (6+g.2).toNat ([]:List Int)).set 0 _).length:Int)=_;rw[List.length_set,List.length_replicate]; omega
 obtain⟨h1,h2⟩:=key (List.range g.2.toNat) _ ht;refine⟨yzk h1 ?_ ?_ ?_ ?_ ?_,hl,h2⟩
 ·show List.all ((yO id g i).2).1 _=true
  rw[show(yO id g i).2=([],false,[])from h2]; rfl
 ·show yp7 _ ((yO id g i).2).2.2=true
  rw[show(yO id g i).2=([],false,[])from h2,yoI];exact⟨fun x hx=>absurd hx List.not_mem_nil,List.Pairwise.nil⟩
 ·show 1≤(yO id g i).1.length; omega
 ·show(yO id g i).1.length≤20; omega
 ·show((yO id g i).2).1.length≤60
  rw[show(yO id g i).2=([],false,[])from h2]; exact Nat.zero_le _
theorem y7e {id:Int} {g:dG} (hg:yf g=true) (h1:1≤id) (h2:id≤60000):yz2 id g=(id,g,(List.range g.1.toNat).map (fun(i:Nat)=>yO id g i),-1,0,0,0,0,[],-1,false,false):=by
 unfold yz2;rw[hg,zk2 h1,zk2 h2]
 have: ∀(n:Nat),(List.range n).foldl (fun a (i:Nat)=>yFG a (yO id g i)) (yFH id g)=(id,g,(List.range n).map (fun(i:Nat)=>yO id g i),-1,0,0,0,0,[],-1,false,false):=by
  intro n
  induction n with
  | zero=>rfl
  | succ n ih=>rw[List.range_succ,List.foldl_append,ih,List.map_append]; rfl
 exact this _
theorem y8D {id:Int} {g:dG} (hg:yf g=true) (h1:1≤id) (h2:id≤60000):Wk 0 (yz2 id g):=by
 have hge:=yk.1 hg;rw[y7e hg h1 h2];have hl:((List.range g.1.toNat).map (fun(i:Nat)=>yO id g i)).length=g.1.toNat:=by rw[List.length_map,List.length_range]
 refine⟨⟨hg,⟨h1,h2⟩,?_,⟨Int.le_refl _,?_⟩,⟨Int.le_refl _,?_⟩,fun _=>rfl,?_,?_,?_,?_,?_⟩,⟨⟨fun i hi=> ?_,?_⟩,?_,?_⟩,⟨rfl,rfl⟩,rfl,Int.le_refl _⟩
 ·rfl
 ·show(-1:Int)≤g.1-1; omega
 ·show(0:Int)≤g.2; omega
 ·show(0:Int)≤0∧(0:Int)≤60000; omega
 ·show(0:Int)≤0∧(0:Int)≤60000; omega
 ·show(0:Int)≤0+4; omega
 ·show(0:Int)≤0; omega
 ·show(0:Int)≤60000; omega
 ·have hi':i<((List.range g.1.toNat).map (fun(i:Nat)=>yO id g i)).length:=hi
  show yGN (-1) false g.2 i (nth ((List.range g.1.toNat).map (fun(i:Nat)=>yO id g i)) i yc);rw[zkS,zkJ hi',List.getElem_map,List.getElem_range];obtain⟨k1,k2,k3⟩:=y64 id i hg;refine⟨k1,k2,fun e=> ?_⟩;rw[show(yO id g i).2=([],false,[])from k3]at e;cases e
 ·show(((List.range g.1.toNat).map (fun(i:Nat)=>yO id g i)).length:Int)=g.1
  rw[hl]; omega
 ·show(-1:Int)≤ -1; omega
 ·show(-1:Int)≤1000; omega
theorem y78 {k m n:Int} {a:dA} (h:Wk k a) (hm:inb m a.2.2.1.length=true):Wk k (yjC a m (spoil (nth a.2.2.1 m yc) n)) :=
 y7D h hm (fun g=>⟨yLF n g.1,by rw[(yJn _ _).1]; exact g.2.1,by rw[(yJn _ _).2]; exact g.2.2⟩)
theorem y7g {α:Type} {c:Bool} {x y:α} (h:c=true):(bif !c then x else y)=y:=by subst h; rfl
theorem y5z {α:Type} {c:Bool} {x y:α} (h:c=false):(bif !c then x else y)=x:=by subst h; rfl
def Lo (d:List dW) (a:dA):Prop:=yaI d a∧yf a.2.1=true∧(a.2.2.1.length:Int)=a.2.1.1∧ -1≤a.2.2.2.1∧a.2.2.2.1≤a.2.1.1-1
theorem y8u {a:dA} (h:yE a=true):Lo a.2.2.2.2.2.2.2.2.1 a:=⟨yUw h,yjf h,yz3 h,y7K h⟩
theorem y8H {d:List dW} {a b:dA} (hg:b.2.1=a.2.1) (hl:b.2.2.1.length=a.2.2.1.length) (ht:b.2.2.2.1=a.2.2.2.1) (hn:yaI d b) (h:Lo d a):Lo d b:=⟨hn,by rw[hg]; exact h.2.1,by rw[hg,hl]; exact h.2.2.1,by rw[hg,ht]; exact h.2.2.2⟩
theorem y6G {d:List dW} {a:dA} (h:Lo d a):Lo d (yao a):=y8H ((ycW (ygX a)).trans rfl) (yGM a) ((y7h (ygX a)).trans rfl) (y7v h.1) h
theorem y8i {d:List dW} {a:dA} {m:Int} (h:Lo d a) (hm:inb m a.2.2.1.length=true):Lo d (yic a m):=by
 obtain⟨f1,f2⟩:=ySi h.1.2.1 hm;have hmi:=zj6.1 hm;have h3:=h.2.2.1;have hL:Lo d (yby a m):=⟨⟨by rw[f2]; exact h.1.1,f1,h.1.2.2⟩,h.2.1,by rw[f2]; exact h.2.2.1,by show -1≤m; omega,by show m≤a.2.1.1-1; omega⟩;have hB:Lo d (ywb a m):=⟨⟨by rw[show(ywb a m).2.2.1=(yby a m).2.2.1 from rfl,f2]; exact h.1.1,f1,h.1.2.2⟩,h.2.1,by rw[show(ywb a m).2.2.1=(yby a m).2.2.1 from rfl,f2]; exact h.2.2.1,h.2.2.2⟩;unfold yic;cases(a.2.2.2.1== -1||a.2.2.2.1==m)
 ·exact hB
 ·cases(!(ye a)&&(!a.2.2.2.2.2.2.2.2.2.2.2&&ltb a.2.2.2.2.2.2.2.1 60000))
  ·exact hL
  ·exact y6G hL
theorem y7Y {d:List dW} {a:dA} (h:Lo d a):Lo d (yao (yd0 a)):=by
 have hg:=yk.1 h.2.1;have e:(yd0 a).2.2.1.length=a.2.2.1.length:=List.length_set;exact y6G (a:=yd0 a) ⟨⟨by rw[e]; exact h.1.1,ywB h.1.2.1 (yIJ (by omega) (by omega)),h.1.2.2⟩,h.2.1,by rw[e]; exact h.2.2.1,h.2.2.2⟩
def yrX:Code:=(f177.body).getD .skip
def yBr:Env:=zkw TT [(82,yq)] [(28864,.fz),(28928,.fz)]
theorem yTo:FrOk prog ⟨yBr,22,fun _=>none⟩ yrX:=zkA mixed yd ⟨yy,trivial⟩
def yHH:Nat→Option Seg:=fun _=>none
def ycL:Shape:=⟨[(0,false,[.int .i64]),(2,false,[.ptr 0 0]),(3,false,[.ptr 12352 0]),(4,false,[.int .i64])],[(0,[.nil,.nil,.bool,.nil]),(12352,[.at 800000000,.nil,.bool,.nil])],[(800000000,tL,.fz)]⟩
def yhu:Shape:=⟨[(0,false,[.int .i64]),(2,false,[.ptr 0 0]),(3,false,[.ptr 12352 0]),(4,false,[.ci .i64 0])],[(0,[.nil,.nil,.bool,.nil]),(12352,[.at 800000000,.nil,.bool,.nil])],[(800000000,tL,.fz)]⟩
def yhh:Shape:=⟨[(2,false,[.ptr 0 0]),(3,false,[.ptr 12352 0])],[(0,[.nil,.nil,.bool,.nil]),(12352,[.at 800000000,.nil,.bool,.nil])],[(800000000,tL,.fz)]⟩
def ylw:Shape:=⟨[],[],[]⟩
abbrev yq0 (v0 v1:Int) (v2 v3:dM):(ycL).X:=(((v0,()),((),()),((),()),(v1,()),()),(((),(),v2.2.2.1,(),()),((),(),v3.2.2.1,(),()),()),(v3.1,()))
abbrev yQ1 (v0:Int) (v1 v2:dM):(yhu).X:=(((v0,()),((),()),((),()),((),()),()),(((),(),v1.2.2.1,(),()),((),(),v2.2.2.1,(),()),()),(v2.1,()))
abbrev yQS (v0 v1:dM):(yhh).X:=((((),()),((),()),()),(((),(),v0.2.2.1,(),()),((),(),v1.2.2.1,(),()),()),(v1.1,()))
def yrD (v0 v1:Int) (v2 v3:Bool) (v4:List (List Int)):Option ((ycL).X ⊕ ((yhh).X ⊕ (ylw).X)) :=bif(ltb v1 v0)then bif(zkl v4.length ([([]:List Int)]:List (List Int)).length 24)then some (.inl (((v0,()),((),()),((),()),((i64.wrap (v1+1)),()),()),(((),(),v2,(),()),((),(),v3,(),()),()),((v4++([([]:List Int)]:List (List Int))),()))) else none else some (.inr (.inl ((((),()),((),()),()),(((),(),v2,(),()),((),(),v3,(),()),()),(v4,()))))
def ydh (x:(ycL).X):=yrD x.1.1.1 x.1.2.2.2.1.1 x.2.1.1.2.2.1 x.2.1.2.1.2.2.1 x.2.2.1
def yDJ (x:(yhu).X):(ycL).X:=(((x.1.1.1,()),((),()),((),()),(0,()),()),(((),(),x.2.1.1.2.2.1,(),()),((),(),x.2.1.2.1.2.2.1,(),()),()),(x.2.2.1,()))
def yFK:Code:=(zd7 yrX 64 244).getD .skip
theorem ySN:zd7 yrX 64 61=some (.block 0 (.loop yFK)):=by kernel_rfl
theorem yVS (x:(ycL).X):zhu ⟨yBr,22,yHH⟩ 0 yFK 244 ycL yhh ylw x=ydh x:=by kernel_rfl
def yDW (x:(yhu).X):Nat:=18446744073709551616
def ysI (x:(yhu).X):Option ((yhh).X ⊕ (ylw).X):=zF ydh (yDW x) (yDJ x)
def yEi:Seg:=⟨yhu,yhh,ylw,ysI⟩
def yWs:Nat→Option Seg:=fun q=>bif Nat.beq q 61 then some yEi else yHH q
theorem yTp:FrOk prog ⟨yBr,22,yWs⟩ yrX:=(yTo).loop (sg:=yEi) ycL yDJ (by decide) ySN ydh yDW (by decide) (fun _=>rfl) (fun x r _ h=>h) yVS
abbrev ysg:List Par:= [.rd tI]
abbrev yCh:List OT:= [⟨false,tM,(.pr (.ow .fz) (.pr (.ow (.pr .fz .fz)) (.pr .fz (.ow .fz))))⟩]
def ywQ (a0:Int):Option (zaY yCh×zak ysg) :=let r1:=ya a0 1 20;bif(!r1)then some ((([],[],false,[]),()),()) else zkt (ysI (((a0,()),((),()),((),()),((),()),()),(((),(),false,(),()),((),(),false,(),()),()),([],()))) (fun y1 =>some (((y1.2.2.1,[],y1.2.1.2.1.2.2.1,[]),()),())) (fun y1 =>none)
theorem yY3:ConOk prog 177 ⟨ysg,yCh,fun x=>ywQ x.1⟩:=zkI (yTp) func177 ntmps177.symm fun x=>by kernel_rfl
def ybG (a0:Int):dM:=ycB a0
theorem y1u (a0:Int) (hk:zjx ysg (a0,())):ywQ a0=(fun n=>some ((n,()),())) (ybG a0):=by
 unfold ywQ ybG ycB;simp only[ybm];cases hc:(leb 1 a0&&leb a0 20)
 ·rfl
 ·rw[Bool.and_eq_true,zj7,zj7]at hc
  have h1:ysI (yQ1 a0 yc yc)=some (.inl (yQS yc (List.replicate a0.toNat [],[],false,[]))) :=
   zkL (step:=ydh) (fun i=>yq0 a0 i yc (List.replicate i [],[],false,[])) a0.toNat _ (fun i hi=>by
    simp only[ydh,yq0,yrD,zky (show(i:Int)<a0 by omega),cond_true,wq ((i:Int)+1) (by omega) (by omega),Int.natCast_add,Int.natCast_one,Int.toNat_natCast]
    rw[zkF.2 (show((List.replicate i ([]:List Int)).length+([[]]:List (List Int)).length)*24≤140737488355328 by simp only[List.length_cons,List.length_nil,List.length_replicate]; omega),← List.replicate_succ']; rfl) (by simp only[ydh,yq0,yrD,zk3 (show a0≤(a0.toNat:Int)by omega),cond_false]) _ (by show _<18446744073709551616; omega)
  rw[h1]; rfl
def yn7:Con:=⟨ysg,yCh,fun x=>(fun n=>some ((n,()),())) (ybG x.1)⟩
theorem yzo:ConOk prog 177 yn7:=(yY3).mono (fun x r hk h=>(y1u x.1 hk).trans h)
def yf0:Code:=(f115.body).getD .skip
def ymb:Env:=zkw TT [(82,yq),(113,ydN),(144,yj8),(150,ygY),(177,yn7),(178,yn8)] [(53440,(.pr (.ow .fz) (.pr (.ow (.pr .fz .fz)) (.pr .fz (.ow .fz))))),(53504,(.pr (.ow .fz) (.pr (.ow (.pr .fz .fz)) (.pr .fz (.ow .fz)))))]
theorem yTg:FrOk prog ⟨ymb,60,fun _=>none⟩ yf0:=zkA mixed yd ⟨yy,yg6,ytr,ymA,yzo,yzp,trivial⟩
def yHG:Nat→Option Seg:=fun _=>none
def ya2:Shape:=⟨[(0,false,[.int .i64]),(3,false,[.ptr 0 0]),(4,false,[.ptr 64 0]),(5,false,[.ptr 12480 0]),(6,false,[.int .i64]),(7,false,[.ptr 28864 0]),(8,false,[.int .i64])],[(0,[.int .i64,.int .i64]),(64,[.int .i64,.int .i64,.int .i64,.nil,.int .i64,.int .i64,.int .i64,.int .i64,.int .i64,.nil,.int .i64,.bool,.bool]),(12480,[.int .i64,.int .i64,.int .i64,.at 800000000,.int .i64,.int .i64,.int .i64,.int .i64,.int .i64,.nil,.int .i64,.bool,.bool]),(28864,[.at 800000001,.at 800000002,.bool,.at 800000003])],[(800000000,tM,(.pr (.ow .fz) (.pr (.ow (.pr .fz .fz)) (.pr .fz (.ow .fz))))),(800000001,tL,.fz),(800000002,tW,(.pr .fz .fz)),(800000003,tI,.fz)]⟩
def yeE:Shape:=⟨[(0,false,[.int .i64]),(3,false,[.ptr 0 0]),(4,false,[.ptr 64 0]),(5,false,[.ptr 12480 0]),(6,false,[.int .i64]),(7,false,[.ptr 28864 0]),(8,false,[.ci .i64 0])],[(0,[.int .i64,.int .i64]),(64,[.int .i64,.int .i64,.int .i64,.nil,.int .i64,.int .i64,.int .i64,.int .i64,.int .i64,.nil,.int .i64,.bool,.bool]),(12480,[.int .i64,.int .i64,.int .i64,.at 800000000,.int .i64,.int .i64,.int .i64,.int .i64,.int .i64,.nil,.int .i64,.bool,.bool]),(28864,[.at 800000001,.at 800000002,.bool,.at 800000003])],[(800000000,tM,(.pr (.ow .fz) (.pr (.ow (.pr .fz .fz)) (.pr .fz (.ow .fz))))),(800000001,tL,.fz),(800000002,tW,(.pr .fz .fz)),(800000003,tI,.fz)]⟩
def yev:Shape:=⟨[(0,false,[.int .i64]),(3,false,[.ptr 0 0]),(4,false,[.ptr 64 0]),(5,false,[.ptr 12480 0]),(6,false,[.int .i64]),(7,false,[.ptr 28864 0])],[(0,[.int .i64,.int .i64]),(64,[.int .i64,.int .i64,.int .i64,.nil,.int .i64,.int .i64,.int .i64,.int .i64,.int .i64,.nil,.int .i64,.bool,.bool]),(12480,[.int .i64,.int .i64,.int .i64,.at 800000000,.int .i64,.int .i64,.int .i64,.int .i64,.int .i64,.nil,.int .i64,.bool,.bool]),(28864,[.at 800000001,.at 800000002,.bool,.at 800000003])],[(800000000,tM,(.pr (.ow .fz) (.pr (.ow (.pr .fz .fz)) (.pr .fz (.ow .fz))))),(800000001,tL,.fz),(800000002,tW,(.pr .fz .fz)),(800000003,tI,.fz)]⟩
def yh0:Shape:=⟨[],[],[]⟩
abbrev ylP (v0 v1 v2:Int) (v3:dG) (v4 v5:dA) (v6:dM):(ya2).X:=(((v0,()),((),()),((),()),((),()),(v1,()),((),()),(v2,()),()),((v3.1,v3.2,()),(v4.1,v4.2.1.1,v4.2.1.2,(),v4.2.2.2.1,v4.2.2.2.2.1,v4.2.2.2.2.2.1,v4.2.2.2.2.2.2.1,v4.2.2.2.2.2.2.2.1,(),v4.2.2.2.2.2.2.2.2.2.1,v4.2.2.2.2.2.2.2.2.2.2.1,v4.2.2.2.2.2.2.2.2.2.2.2,()),(v5.1,v5.2.1.1,v5.2.1.2,(),v5.2.2.2.1,v5.2.2.2.2.1,v5.2.2.2.2.2.1,v5.2.2.2.2.2.2.1,v5.2.2.2.2.2.2.2.1,(),v5.2.2.2.2.2.2.2.2.2.1,v5.2.2.2.2.2.2.2.2.2.2.1,v5.2.2.2.2.2.2.2.2.2.2.2,()),((),(),v6.2.2.1,(),()),()),(v5.2.2.1,v6.1,v6.2.1,v6.2.2.2,()))
abbrev yLl (v0 v1:Int) (v2:dG) (v3 v4:dA) (v5:dM):(yeE).X:=(((v0,()),((),()),((),()),((),()),(v1,()),((),()),((),()),()),((v2.1,v2.2,()),(v3.1,v3.2.1.1,v3.2.1.2,(),v3.2.2.2.1,v3.2.2.2.2.1,v3.2.2.2.2.2.1,v3.2.2.2.2.2.2.1,v3.2.2.2.2.2.2.2.1,(),v3.2.2.2.2.2.2.2.2.2.1,v3.2.2.2.2.2.2.2.2.2.2.1,v3.2.2.2.2.2.2.2.2.2.2.2,()),(v4.1,v4.2.1.1,v4.2.1.2,(),v4.2.2.2.1,v4.2.2.2.2.1,v4.2.2.2.2.2.1,v4.2.2.2.2.2.2.1,v4.2.2.2.2.2.2.2.1,(),v4.2.2.2.2.2.2.2.2.2.1,v4.2.2.2.2.2.2.2.2.2.2.1,v4.2.2.2.2.2.2.2.2.2.2.2,()),((),(),v5.2.2.1,(),()),()),(v4.2.2.1,v5.1,v5.2.1,v5.2.2.2,()))
abbrev ywv (v0 v1:Int) (v2:dG) (v3 v4:dA) (v5:dM):(yev).X:=(((v0,()),((),()),((),()),((),()),(v1,()),((),()),()),((v2.1,v2.2,()),(v3.1,v3.2.1.1,v3.2.1.2,(),v3.2.2.2.1,v3.2.2.2.2.1,v3.2.2.2.2.2.1,v3.2.2.2.2.2.2.1,v3.2.2.2.2.2.2.2.1,(),v3.2.2.2.2.2.2.2.2.2.1,v3.2.2.2.2.2.2.2.2.2.2.1,v3.2.2.2.2.2.2.2.2.2.2.2,()),(v4.1,v4.2.1.1,v4.2.1.2,(),v4.2.2.2.1,v4.2.2.2.2.1,v4.2.2.2.2.2.1,v4.2.2.2.2.2.2.1,v4.2.2.2.2.2.2.2.1,(),v4.2.2.2.2.2.2.2.2.2.1,v4.2.2.2.2.2.2.2.2.2.2.1,v4.2.2.2.2.2.2.2.2.2.2.2,()),((),(),v5.2.2.1,(),()),()),(v4.2.2.1,v5.1,v5.2.1,v5.2.2.2,()))
def yl6 (v0 v1 v2 v3 v4 v5 v6 v7 v8 v9 v10 v11 v12 v13:Int) (v14 v15:Bool) (v16 v17 v18 v19 v20 v21 v22 v23 v24:Int) (v25 v26 v27:Bool) (v28:List dM) (v29:List (List Int)) (v30:List dW) (v31:List Int):Option ((ya2).X ⊕ ((yev).X ⊕ (yh0).X)) :=bif(ltb v2 v4)then let r13:=yaO v2;bif(inb r13 v29.length)then some (.inl (((v0,()),((),()),((),()),((),()),(v1,()),((),()),((i64.wrap (v2+1)),()),()),((v3,v4,()),(v5,v6,v7,(),v8,v9,v10,v11,v12,(),v13,v14,v15,()),(v16,v17,v18,(),v19,v20,v21,v22,v23,(),v24,v25,v26,()),((),(),v27,(),()),()),(v28,(v29.set (r13).toNat ([0]:List Int)),v30,v31,()))) else none else some (.inr (.inl (((v0,()),((),()),((),()),((),()),(v1,()),((),()),()),((v3,v4,()),(v5,v6,v7,(),v8,v9,v10,v11,v12,(),v13,v14,v15,()),(v16,v17,v18,(),v19,v20,v21,v22,v23,(),v24,v25,v26,()),((),(),v27,(),()),()),(v28,v29,v30,v31,()))))
def ybh (x:(ya2).X):=yl6 x.1.1.1 x.1.2.2.2.2.1.1 x.1.2.2.2.2.2.2.1.1 x.2.1.1.1 x.2.1.1.2.1 x.2.1.2.1.1 x.2.1.2.1.2.1 x.2.1.2.1.2.2.1 x.2.1.2.1.2.2.2.2.1 x.2.1.2.1.2.2.2.2.2.1 x.2.1.2.1.2.2.2.2.2.2.1 x.2.1.2.1.2.2.2.2.2.2.2.1 x.2.1.2.1.2.2.2.2.2.2.2.2.1 x.2.1.2.1.2.2.2.2.2.2.2.2.2.2.1 x.2.1.2.1.2.2.2.2.2.2.2.2.2.2.2.1 x.2.1.2.1.2.2.2.2.2.2.2.2.2.2.2.2.1 x.2.1.2.2.1.1 x.2.1.2.2.1.2.1 x.2.1.2.2.1.2.2.1 x.2.1.2.2.1.2.2.2.2.1 x.2.1.2.2.1.2.2.2.2.2.1 x.2.1.2.2.1.2.2.2.2.2.2.1 x.2.1.2.2.1.2.2.2.2.2.2.2.1 x.2.1.2.2.1.2.2.2.2.2.2.2.2.1 x.2.1.2.2.1.2.2.2.2.2.2.2.2.2.2.1 x.2.1.2.2.1.2.2.2.2.2.2.2.2.2.2.2.1 x.2.1.2.2.1.2.2.2.2.2.2.2.2.2.2.2.2.1 x.2.1.2.2.2.1.2.2.1 x.2.2.1 x.2.2.2.1 x.2.2.2.2.1 x.2.2.2.2.2.1
def yv6 (x:(yeE).X):(ya2).X:=(((x.1.1.1,()),((),()),((),()),((),()),(x.1.2.2.2.2.1.1,()),((),()),(0,()),()),((x.2.1.1.1,x.2.1.1.2.1,()),(x.2.1.2.1.1,x.2.1.2.1.2.1,x.2.1.2.1.2.2.1,(),x.2.1.2.1.2.2.2.2.1,x.2.1.2.1.2.2.2.2.2.1,x.2.1.2.1.2.2.2.2.2.2.1,x.2.1.2.1.2.2.2.2.2.2.2.1,x.2.1.2.1.2.2.2.2.2.2.2.2.1,(),x.2.1.2.1.2.2.2.2.2.2.2.2.2.2.1,x.2.1.2.1.2.2.2.2.2.2.2.2.2.2.2.1,x.2.1.2.1.2.2.2.2.2.2.2.2.2.2.2.2.1,()),(x.2.1.2.2.1.1,x.2.1.2.2.1.2.1,x.2.1.2.2.1.2.2.1,(),x.2.1.2.2.1.2.2.2.2.1,x.2.1.2.2.1.2.2.2.2.2.1,x.2.1.2.2.1.2.2.2.2.2.2.1,x.2.1.2.2.1.2.2.2.2.2.2.2.1,x.2.1.2.2.1.2.2.2.2.2.2.2.2.1,(),x.2.1.2.2.1.2.2.2.2.2.2.2.2.2.2.1,x.2.1.2.2.1.2.2.2.2.2.2.2.2.2.2.2.1,x.2.1.2.2.1.2.2.2.2.2.2.2.2.2.2.2.2.1,()),((),(),x.2.1.2.2.2.1.2.2.1,(),()),()),(x.2.2.1,x.2.2.2.1,x.2.2.2.2.1,x.2.2.2.2.2.1,()))
def yxn:Code:=(zd7 yf0 64 125236).getD .skip
theorem yL8:zd7 yf0 64 31309=some (.block 2 (.loop yxn)):=by kernel_rfl
theorem yMW (x:(ya2).X):zhu ⟨ymb,60,yHG⟩ 2 yxn 125236 ya2 yev yh0 x=ybh x:=by kernel_rfl
def ywh (x:(yeE).X):Nat:=18446744073709551616
def ymM (x:(yeE).X):Option ((yev).X ⊕ (yh0).X):=zF ybh (ywh x) (yv6 x)
def yw7:Seg:=⟨yeE,yev,yh0,ymM⟩
def yut:Nat→Option Seg:=fun q=>bif Nat.beq q 31309 then some yw7 else yHG q
theorem yTh:FrOk prog ⟨ymb,60,yut⟩ yf0:=(yTg).loop (sg:=yw7) ya2 yv6 (by decide) yL8 ybh ywh (by decide) (fun _=>rfl) (fun x r _ h=>h) yMW
def ycK:Shape:=⟨[(0,false,[.int .i64]),(3,false,[.ptr 0 0]),(4,false,[.ptr 64 0]),(5,false,[.ptr 12480 0]),(6,false,[.int .i64])],[(0,[.int .i64,.int .i64]),(64,[.int .i64,.int .i64,.int .i64,.nil,.int .i64,.int .i64,.int .i64,.int .i64,.int .i64,.nil,.int .i64,.bool,.bool]),(12480,[.int .i64,.int .i64,.int .i64,.at 800000000,.int .i64,.int .i64,.int .i64,.int .i64,.int .i64,.nil,.int .i64,.bool,.bool])],[(800000000,tM,(.pr (.ow .fz) (.pr (.ow (.pr .fz .fz)) (.pr .fz (.ow .fz)))))]⟩
def yht:Shape:=⟨[(0,false,[.int .i64]),(3,false,[.ptr 0 0]),(4,false,[.ptr 64 0]),(5,false,[.ptr 12480 0]),(6,false,[.ci .i64 0])],[(0,[.int .i64,.int .i64]),(64,[.int .i64,.int .i64,.int .i64,.nil,.int .i64,.int .i64,.int .i64,.int .i64,.int .i64,.nil,.int .i64,.bool,.bool]),(12480,[.int .i64,.int .i64,.int .i64,.at 800000000,.int .i64,.int .i64,.int .i64,.int .i64,.int .i64,.nil,.int .i64,.bool,.bool])],[(800000000,tM,(.pr (.ow .fz) (.pr (.ow (.pr .fz .fz)) (.pr .fz (.ow .fz)))))]⟩
def yhg:Shape:=⟨[(4,false,[.ptr 64 0]),(5,false,[.ptr 12480 0])],[(64,[.int .i64,.int .i64,.int .i64,.nil,.int .i64,.int .i64,.int .i64,.int .i64,.int .i64,.nil,.int .i64,.bool,.bool]),(12480,[.int .i64,.int .i64,.int .i64,.at 800000000,.int .i64,.int .i64,.int .i64,.int .i64,.int .i64,.nil,.int .i64,.bool,.bool])],[(800000000,tM,(.pr (.ow .fz) (.pr (.ow (.pr .fz .fz)) (.pr .fz (.ow .fz)))))]⟩
def ylv:Shape:=⟨[],[],[]⟩
abbrev yj9 (v0 v1:Int) (v2:dG) (v3 v4:dA):(ycK).X:=(((v0,()),((),()),((),()),((),()),(v1,()),()),((v2.1,v2.2,()),(v3.1,v3.2.1.1,v3.2.1.2,(),v3.2.2.2.1,v3.2.2.2.2.1,v3.2.2.2.2.2.1,v3.2.2.2.2.2.2.1,v3.2.2.2.2.2.2.2.1,(),v3.2.2.2.2.2.2.2.2.2.1,v3.2.2.2.2.2.2.2.2.2.2.1,v3.2.2.2.2.2.2.2.2.2.2.2,()),(v4.1,v4.2.1.1,v4.2.1.2,(),v4.2.2.2.1,v4.2.2.2.2.1,v4.2.2.2.2.2.1,v4.2.2.2.2.2.2.1,v4.2.2.2.2.2.2.2.1,(),v4.2.2.2.2.2.2.2.2.2.1,v4.2.2.2.2.2.2.2.2.2.2.1,v4.2.2.2.2.2.2.2.2.2.2.2,()),()),(v4.2.2.1,()))
abbrev yQ0 (v0:Int) (v1:dG) (v2 v3:dA):(yht).X:=(((v0,()),((),()),((),()),((),()),((),()),()),((v1.1,v1.2,()),(v2.1,v2.2.1.1,v2.2.1.2,(),v2.2.2.2.1,v2.2.2.2.2.1,v2.2.2.2.2.2.1,v2.2.2.2.2.2.2.1,v2.2.2.2.2.2.2.2.1,(),v2.2.2.2.2.2.2.2.2.2.1,v2.2.2.2.2.2.2.2.2.2.2.1,v2.2.2.2.2.2.2.2.2.2.2.2,()),(v3.1,v3.2.1.1,v3.2.1.2,(),v3.2.2.2.1,v3.2.2.2.2.1,v3.2.2.2.2.2.1,v3.2.2.2.2.2.2.1,v3.2.2.2.2.2.2.2.1,(),v3.2.2.2.2.2.2.2.2.2.1,v3.2.2.2.2.2.2.2.2.2.2.1,v3.2.2.2.2.2.2.2.2.2.2.2,()),()),(v3.2.2.1,()))
abbrev yD7 (v0 v1:dA):(yhg).X:=((((),()),((),()),()),((v0.1,v0.2.1.1,v0.2.1.2,(),v0.2.2.2.1,v0.2.2.2.2.1,v0.2.2.2.2.2.1,v0.2.2.2.2.2.2.1,v0.2.2.2.2.2.2.2.1,(),v0.2.2.2.2.2.2.2.2.2.1,v0.2.2.2.2.2.2.2.2.2.2.1,v0.2.2.2.2.2.2.2.2.2.2.2,()),(v1.1,v1.2.1.1,v1.2.1.2,(),v1.2.2.2.1,v1.2.2.2.2.1,v1.2.2.2.2.2.1,v1.2.2.2.2.2.2.1,v1.2.2.2.2.2.2.2.1,(),v1.2.2.2.2.2.2.2.2.2.1,v1.2.2.2.2.2.2.2.2.2.2.1,v1.2.2.2.2.2.2.2.2.2.2.2,()),()),(v1.2.2.1,()))
def yrC (v0 v1 v2 v3 v4 v5 v6 v7 v8 v9 v10 v11 v12:Int) (v13 v14:Bool) (v15 v16 v17 v18 v19 v20 v21 v22 v23:Int) (v24 v25:Bool) (v26:List dM):Option ((ycK).X ⊕ ((yhg).X ⊕ (ylv).X)) :=bif(ltb v1 v2)then let r15:=ycG (v2,v3);let r16:=ybG r15;let r17:=yJ (v0,0,v1,v2,v3,0,(-1),0);bif(inb 0 r16.1.length)then zkt (ymM (((v0,()),((),()),((),()),((),()),(v1,()),((),()),((),()),()),((v2,v3,()),(v4,v5,v6,(),v7,v8,v9,v10,v11,(),v12,v13,v14,()),(v15,v16,v17,(),v18,v19,v20,v21,v22,(),v23,v24,v25,()),((),(),r16.2.2.1,(),()),()),(v26,(r16.1.set (0:Int).toNat r17),r16.2.1,r16.2.2.2,()))) (fun y17 =>bif(zkl y17.2.2.1.length ([(y17.2.2.2.1,y17.2.2.2.2.1,y17.2.1.2.2.2.1.2.2.1,y17.2.2.2.2.2.1)]:List dM).length 80)then some (.inl (((y17.1.1.1,()),((),()),((),()),((),()),((i64.wrap (y17.1.2.2.2.2.1.1+1)),()),()),((y17.2.1.1.1,y17.2.1.1.2.1,()),(y17.2.1.2.1.1,y17.2.1.2.1.2.1,y17.2.1.2.1.2.2.1,(),y17.2.1.2.1.2.2.2.2.1,y17.2.1.2.1.2.2.2.2.2.1,y17.2.1.2.1.2.2.2.2.2.2.1,y17.2.1.2.1.2.2.2.2.2.2.2.1,y17.2.1.2.1.2.2.2.2.2.2.2.2.1,(),y17.2.1.2.1.2.2.2.2.2.2.2.2.2.2.1,y17.2.1.2.1.2.2.2.2.2.2.2.2.2.2.2.1,y17.2.1.2.1.2.2.2.2.2.2.2.2.2.2.2.2.1,()),(y17.2.1.2.2.1.1,y17.2.1.2.2.1.2.1,y17.2.1.2.2.1.2.2.1,(),y17.2.1.2.2.1.2.2.2.2.1,y17.2.1.2.2.1.2.2.2.2.2.1,y17.2.1.2.2.1.2.2.2.2.2.2.1,y17.2.1.2.2.1.2.2.2.2.2.2.2.1,y17.2.1.2.2.1.2.2.2.2.2.2.2.2.1,(),y17.2.1.2.2.1.2.2.2.2.2.2.2.2.2.2.1,y17.2.1.2.2.1.2.2.2.2.2.2.2.2.2.2.2.1,y17.2.1.2.2.1.2.2.2.2.2.2.2.2.2.2.2.2.1,()),()),((y17.2.2.1++([(y17.2.2.2.1,y17.2.2.2.2.1,y17.2.1.2.2.2.1.2.2.1,y17.2.2.2.2.2.1)]:List dM)),()))) else none) (fun y17 =>some (.inr (.inr ((),(),())))) else none else some (.inr (.inl ((((),()),((),()),()),((v4,v5,v6,(),v7,v8,v9,v10,v11,(),v12,v13,v14,()),(v15,v16,v17,(),v18,v19,v20,v21,v22,(),v23,v24,v25,()),()),(v26,()))))
def ydg (x:(ycK).X):=yrC x.1.1.1 x.1.2.2.2.2.1.1 x.2.1.1.1 x.2.1.1.2.1 x.2.1.2.1.1 x.2.1.2.1.2.1 x.2.1.2.1.2.2.1 x.2.1.2.1.2.2.2.2.1 x.2.1.2.1.2.2.2.2.2.1 x.2.1.2.1.2.2.2.2.2.2.1 x.2.1.2.1.2.2.2.2.2.2.2.1 x.2.1.2.1.2.2.2.2.2.2.2.2.1 x.2.1.2.1.2.2.2.2.2.2.2.2.2.2.1 x.2.1.2.1.2.2.2.2.2.2.2.2.2.2.2.1 x.2.1.2.1.2.2.2.2.2.2.2.2.2.2.2.2.1 x.2.1.2.2.1.1 x.2.1.2.2.1.2.1 x.2.1.2.2.1.2.2.1 x.2.1.2.2.1.2.2.2.2.1 x.2.1.2.2.1.2.2.2.2.2.1 x.2.1.2.2.1.2.2.2.2.2.2.1 x.2.1.2.2.1.2.2.2.2.2.2.2.1 x.2.1.2.2.1.2.2.2.2.2.2.2.2.1 x.2.1.2.2.1.2.2.2.2.2.2.2.2.2.2.1 x.2.1.2.2.1.2.2.2.2.2.2.2.2.2.2.2.1 x.2.1.2.2.1.2.2.2.2.2.2.2.2.2.2.2.2.1 x.2.2.1
def yDI (x:(yht).X):(ycK).X:=(((x.1.1.1,()),((),()),((),()),((),()),(0,()),()),((x.2.1.1.1,x.2.1.1.2.1,()),(x.2.1.2.1.1,x.2.1.2.1.2.1,x.2.1.2.1.2.2.1,(),x.2.1.2.1.2.2.2.2.1,x.2.1.2.1.2.2.2.2.2.1,x.2.1.2.1.2.2.2.2.2.2.1,x.2.1.2.1.2.2.2.2.2.2.2.1,x.2.1.2.1.2.2.2.2.2.2.2.2.1,(),x.2.1.2.1.2.2.2.2.2.2.2.2.2.2.1,x.2.1.2.1.2.2.2.2.2.2.2.2.2.2.2.1,x.2.1.2.1.2.2.2.2.2.2.2.2.2.2.2.2.1,()),(x.2.1.2.2.1.1,x.2.1.2.2.1.2.1,x.2.1.2.2.1.2.2.1,(),x.2.1.2.2.1.2.2.2.2.1,x.2.1.2.2.1.2.2.2.2.2.1,x.2.1.2.2.1.2.2.2.2.2.2.1,x.2.1.2.2.1.2.2.2.2.2.2.2.1,x.2.1.2.2.1.2.2.2.2.2.2.2.2.1,(),x.2.1.2.2.1.2.2.2.2.2.2.2.2.2.2.1,x.2.1.2.2.1.2.2.2.2.2.2.2.2.2.2.2.1,x.2.1.2.2.1.2.2.2.2.2.2.2.2.2.2.2.2.1,()),()),(x.2.2.1,()))
def yFJ:Code:=(zd7 yf0 64 244).getD .skip
theorem ySM:zd7 yf0 64 61=some (.block 0 (.loop yFJ)):=by kernel_rfl
theorem yVR (x:(ycK).X):zhu ⟨ymb,60,yut⟩ 0 yFJ 244 ycK yhg ylv x=ydg x:=by kernel_rfl
def yDV (x:(yht).X):Nat:=18446744073709551616
def ysH (x:(yht).X):Option ((yhg).X ⊕ (ylv).X):=zF ydg (yDV x) (yDI x)
def yEh:Seg:=⟨yht,yhg,ylv,ysH⟩
def yWr:Nat→Option Seg:=fun q=>bif Nat.beq q 61 then some yEh else yut q
theorem yTi:FrOk prog ⟨ymb,60,yWr⟩ yf0:=(yTh).loop (sg:=yEh) ycK yDI (by decide) ySM ydg yDV (by decide) (fun _=>rfl) (fun x r _ h=>h) yVR
abbrev ysc:List Par:= [.rd tI,.rd tG]
abbrev yCb:List OT:= [⟨false,tA,(.pr .fz (.pr (.pr .fz .fz) (.pr (.ow (.pr (.ow .fz) (.pr (.ow (.pr .fz .fz)) (.pr .fz (.ow .fz))))) (.pr .fz (.pr .fz (.pr .fz (.pr .fz (.pr .fz (.pr (.ow (.pr .fz .fz)) (.pr .fz (.pr .fz .fz)))))))))))⟩]
def ywM (a0:Int) (a1:dG):Option (zaY yCb×zak ysc) :=let r1:=yf a1;bif(!(!r1))then let r2:=ya a0 1 60000;bif(!r2)then some (((0,(0,0),[],0,0,0,0,0,[],0,false,false),()),()) else zkt (ysH (((a0,()),((),()),((),()),((),()),((),()),()),((a1.1,a1.2,()),(0,0,0,(),0,0,0,0,0,(),0,false,false,()),(a0,a1.1,a1.2,(),(-1),0,0,0,0,(),(-1),false,false,()),()),([],()))) (fun y18 =>some (((y18.2.1.2.1.1,(y18.2.1.2.1.2.1,y18.2.1.2.1.2.2.1),y18.2.2.1,y18.2.1.2.1.2.2.2.2.1,y18.2.1.2.1.2.2.2.2.2.1,y18.2.1.2.1.2.2.2.2.2.2.1,y18.2.1.2.1.2.2.2.2.2.2.2.1,y18.2.1.2.1.2.2.2.2.2.2.2.2.1,[],y18.2.1.2.1.2.2.2.2.2.2.2.2.2.2.1,y18.2.1.2.1.2.2.2.2.2.2.2.2.2.2.2.1,y18.2.1.2.1.2.2.2.2.2.2.2.2.2.2.2.2.1),()),())) (fun y18 =>none) else some (((0,(0,0),[],0,0,0,0,0,[],0,false,false),()),())
theorem yYX:ConOk prog 115 ⟨ysc,yCb,fun x=>ywM x.1 x.2.1⟩:=zkI (yTi) func115 ntmps115.symm fun x=>by kernel_rfl
def ymt (a0:Int) (a1:dG):dA:=yz2 a0 a1
theorem y1o (a0:Int) (a1:dG) (hk:zjx ysc (a0,a1,())):ywM a0 a1=(fun n=>some ((n,()),())) (ymt a0 a1):=by
 unfold ywM ymt yz2;simp only[ybm];cases hg:yf a1
 ·rfl
 cases hid:(leb 1 a0&&leb a0 60000)
 ·rfl
 have hge:=yk.1 hg
 have inner: ∀(i:Int) (a:dA),ymM (yLl a0 i a1 yK a (yA6 a0 a1 i))=some (.inl (ywv a0 i a1 yK a (yO a0 a1 i))):=fun i a =>
  zkD (step:=ybh) a1.2.toNat (fun s m=>ylP a0 i s a1 yK a m) yKo (fun _ m=>(m.1.length:Int)=6+a1.2) (fun m=> .inl (ywv a0 i a1 yK a m)) (fun s m hs hm=>⟨by
   simp only[ybh,ylP,yl6,zky (show(s:Int)<a1.2 by omega),cond_true,wq ((s:Int)+1) (by omega) (by omega),Int.natCast_add,Int.natCast_one,Int.toNat_natCast,ye8];have hd:ycA (s:Int)=((s+6:Nat):Int):=by unfold ycA; rw[zk2 (show(0:Int)≤s by omega),zk2 (show(s:Int)≤1099511627776 by omega)]; rfl
   rw[hd,zkR (show s+6<m.1.length by omega),Int.toNat_natCast]; rfl,by show((m.1.set _ _).length:Int)=_; rw[List.length_set]; exact hm⟩) (fun m hm=>by simp only[ybh,ylP,yl6,show((a1.2.toNat:Nat):Int)=a1.2 by omega,zk3 (Int.le_refl _),cond_false]) (yA6 a0 a1 i) (by
   unfold yA6 ycB;rw[zk2 (show 1≤6+a1.2 by omega),zk2 (show 6+a1.2≤20 by omega)];show(((List.replicate (6+a1.2).toNat ([]:List Int)).set 0 _).length:Int)=_
   rw[List.length_set,List.length_replicate]; omega) 18446744073709551616 (by omega)
 have hmn:ybG (ycG a1)=ycB (6+a1.2):=by
  unfold ybG ycG;rw[wr (by omega) (by omega)]
 have h0:inb 0 (ycB (6+a1.2)).1.length=true:=by
  unfold ycB;rw[zk2 (show 1≤6+a1.2 by omega),zk2 (show 6+a1.2≤20 by omega)];show inb 0 (List.replicate (6+a1.2).toNat ([]:List Int)).length=true;rw[List.length_replicate,zj6]; omega
 have outer:ysH (yQ0 a0 a1 yK (yFH a0 a1))=some (.inl (yD7 yK ((List.range a1.1.toNat).foldl (fun a (i:Nat)=>yFG a (yO a0 a1 i)) (yFH a0 a1)))) :=
  zkD (step:=ydg) a1.1.toNat (fun i a=>yj9 a0 i a1 yK a) (fun a i=>yFG a (yO a0 a1 i)) (fun i a=>a.2.2.1.length=i) (fun a=> .inl (yD7 yK a)) (fun i a hi ha=>⟨by
   simp only[ydg,yj9,yrC,zky (show(i:Int)<a1.1 by omega),cond_true,wq ((i:Int)+1) (by omega) (by omega),Int.natCast_add,Int.natCast_one,zkX,hmn,h0];refine(congrArg (fun z=>zkt z _ _) (inner i a)).trans ?_;simp only[zkN];show(bif zkl a.2.2.1.length [yO a0 a1 i].length 80 then _ else _)=_;rw[zkF.2 (show(a.2.2.1.length+ [yO a0 a1 i].length)*80≤140737488355328 by simp only[List.length_cons,List.length_nil]; omega)];simp only[cond_true];show some (Sum.inl (yj9 a0 (i64.wrap ((i:Int)+1)) a1 yK (yFG a (yO a0 a1 i))))=_
   rw[wq ((i:Int)+1) (by omega) (by omega)],by show(a.2.2.1++ [_]).length=_; rw[List.length_append,ha]; rfl⟩) (fun a ha=>by simp only[ydg,yj9,yrC,show((a1.1.toNat:Nat):Int)=a1.1 by omega,zk3 (Int.le_refl _),cond_false]) (yFH a0 a1) rfl 18446744073709551616 (by omega)
 have hdr: ∀(l:List Nat) (a:dA),a.2.2.2.2.2.2.2.2.1= []→(l.foldl (fun a (i:Nat)=>yFG a (yO a0 a1 i)) a).2.2.2.2.2.2.2.2.1= []:=by
  intro l
  induction l with
  | nil=>intro a h; exact h
  | cons x t ih=>intro a h; exact ih _ h
 have h:=hdr (List.range a1.1.toNat) (yFH a0 a1) rfl;simp only[Bool.not_true,Bool.not_false,cond_true,cond_false,Bool.and_self];refine(congrArg (fun z=>zkt z _ _) outer).trans ?_;generalize (List.range a1.1.toNat).foldl (fun a (i:Nat)=>yFG a (yO a0 a1 i)) (yFH a0 a1)=R at h;simp only[zkN];show some ((((R.1,R.2.1,R.2.2.1,R.2.2.2.1,R.2.2.2.2.1,R.2.2.2.2.2.1,R.2.2.2.2.2.2.1,R.2.2.2.2.2.2.2.1,[],R.2.2.2.2.2.2.2.2.2):dA),()),())=some ((R,()),());rw[← h]
def yIi:Con:=⟨ysc,yCb,fun x=>(fun n=>some ((n,()),())) (ymt x.1 x.2.1)⟩
theorem y2o:ConOk prog 115 yIi:=(yYX).mono (fun x r hk h=>(y1o x.1 x.2.1 hk).trans h)
def y5f:Code:=(f116.body).getD .skip
def y5u:Env:=zkw TT [(72,ym)] []
theorem yXU:FrOk prog ⟨y5u,10,fun _=>none⟩ y5f:=zkA mixed yd ⟨yv,trivial⟩
abbrev yFi:List Par:= [.pt tU .fz]
abbrev yFE:List OT:= [⟨false,tG,(.pr .fz .fz)⟩]
def yk9 (a0:dU):Option (zaY yFE×zak yFi) :=bnd (yb a0 3) fun r1 =>bnd (yb r1.2.1 4) fun r2 =>some ((((i64.wrap (3+r1.1.1)),(i64.wrap (1+r2.1.1))),()),(r2.2.1,()))
theorem y2b:ConOk prog 116 ⟨yFi,yFE,fun x=>yk9 x.1⟩:=zkI (yXU) func116 ntmps116.symm fun x=>by kernel_rfl
def yJ8:Con:=⟨yFi,yFE,fun x=>yk9 x.1⟩
theorem y4S:ConOk prog 116 yJ8:=y2b
theorem y7T (u:dU) (h:yA u): ∃(g:dG) (u':dU),yk9 u=some ((g,()),(u',()))∧yf g=true∧yA u':=by
 unfold yk9;obtain⟨r1,u1,e1,q1,d1⟩:=yo u 3 h;obtain⟨r2,u2,e2,q2,d2⟩:=yo u1 4 d1;simp only[e1,e2,zkH];refine⟨_,_,rfl,?_,d2⟩;have:=q1.2.1 (by omega); have:=q2.2.1 (by omega); have:=q1.1; have:=q2.1;rw[wr (by omega) (by omega),wr (by omega) (by omega)];exact yk.2 ⟨⟨by show 3≤3+r1; omega,by show 3+r1≤5; omega⟩,by show 1≤1+r2; omega,by show 1+r2≤8; omega⟩
def y48:Code:=(f162.body).getD .skip
def y5n:Env:=zkw TT [(82,yq),(200,yhK)] []
theorem yXD:FrOk prog ⟨y5n,22,fun _=>none⟩ y48:=zkA mixed yd ⟨yy,yoh,trivial⟩
abbrev yE9:List Par:= [.rd tN]
abbrev yFs:List OT:= [⟨false,tB,.fz⟩]
def yKN (a0:dN):Option (zaY yFs×zak yE9) :=let r1:=ya a0.1 0 60000;bif r1 then let r2:=ya a0.2.1 0 7;bif r2 then let r3:=ya (a0.2.2.length:Int) 2 4;bif r3 then let r4:=yX a0.2.2;some ((r4,()),()) else some ((false,()),()) else some ((false,()),()) else some ((false,()),())
theorem y1U:ConOk prog 162 ⟨yE9,yFs,fun x=>yKN x.1⟩:=zkI (yXD) func162 ntmps162.symm fun x=>by kernel_rfl
def yB (a0:dN):Bool :=let r1:=ya a0.1 0 60000;bif r1 then let r2:=ya a0.2.1 0 7;bif r2 then let r3:=ya (a0.2.2.length:Int) 2 4;bif r3 then let r4:=yX a0.2.2;r4 else false else false else false
def yzb:Con:=⟨yE9,yFs,fun x=>(fun n=>some ((n,()),())) (yB x.1)⟩
theorem y4A (a0:dN):yKN a0=(fun n=>some ((n,()),())) (yB a0):=zkV (p:=fun(n:Bool)=>((n,()),())) (zkG (p:=fun(n:Bool)=>((n,()),())) (zkG (p:=fun(n:Bool)=>((n,()),())) (zkG (p:=fun(n:Bool)=>((n,()),())) rfl rfl) rfl) rfl)
theorem yLQ:ConOk prog 162 yzb:=(y1U).mono (fun x r _ h=>(y4A x.1).trans h)
abbrev yIN:dN:=(0,0,[])
def yo6 (r:dN):List Int:=bif yB r then 21322::r.1::r.2.1::(r.2.2.length:Int)::r.2.2 else[]
def yJi (l:List Int):dN:=(nth l 1 0,nth l 2 0,l.drop 4)
def yba (l:List Int):dN×Bool:=bif leb 4 (l.length:Int)&&(nth l 0 0==21322&&(nth l 3 0==(l.length:Int)-4&&yB (yJi l)))then(yJi l,true)else(yIN,false)
theorem yPi {r:dN}:yB r=true↔(0≤r.1∧r.1≤60000)∧(0≤r.2.1∧r.2.1≤7)∧(2≤(r.2.2.length:Int)∧(r.2.2.length:Int)≤4)∧r.2.2.all isW=true:=by
 unfold yB;simp only[ysz,← ywm];cases ya r.1 0 60000<;>cases ya r.2.1 0 7<;>cases ya (r.2.2.length:Int) 2 4<;>simp
def yPj (a:dA) (q:Int) (i:Nat):List Int×Bool:=yr (nth a.2.2.1 i yc) (yl q)
def yzV (a:dA) (q:Int) (i:Nat):dN:=(yba (yPj a q i).1).1
def ymC (a:dA) (q:Int) (i:Nat):Bool:=(yPj a q i).2&&((yba (yPj a q i).1).2&&((yzV a q i).1==q&&((leb 0 (yzV a q i).2.1&&leb (yzV a q i).2.1 (a.2.1.2-1))&&((yzV a q i).2.2.length:Int)==a.2.1.1-1)))
def yU (a:dA) (q:Int):dN×Bool:=bif leb 0 (yR (ymC a q) (List.range a.2.2.1.length))then(yzV a q (yR (ymC a q) (List.range a.2.2.1.length)).toNat,true)else(yIN,false)
theorem yLD {n i:Nat} (h:i<n):(List.range n).getD i 0=i:=by rw[zkJ (by rw[List.length_range]; exact h)]; simp
theorem y7r {l:List Int} (h:(yba l).2=true):yB (yba l).1=true∧l=yo6 (yba l).1:=by
 unfold yba at h ⊢;cases hc:(leb 4 (l.length:Int)&&(nth l 0 0==21322&&(nth l 3 0==(l.length:Int)-4&&yB (yJi l))))
 ·rw[hc]at h; cases h
 ·simp only[Bool.and_eq_true,zj7,beq_iff_eq]at hc
  refine⟨hc.2.2.2,?_⟩;show l=yo6 (yJi l);unfold yo6;rw[hc.2.2.2]
  match l,hc with
  | x0::x1::x2::x3::t,hc =>
   have e0:x0=21322:=hc.2.1;have e3:x3=((x0::x1::x2::x3::t).length:Int)-4:=hc.2.2.1;have e4:x3=(t.length:Int):=by rw[e3]; simp only[List.length_cons]; omega
   subst e0;rw[e4]; rfl
  | [],hc=>exact absurd hc.1 (by simp)
  | [_],hc=>exact absurd hc.1 (by simp)
  | [_,_],hc=>exact absurd hc.1 (by simp)
  | [_,_,_],hc=>exact absurd hc.1 (by simp)
theorem y7U {a:dA} {q:Int} (h:(yU a q).2=true): ∃i,i<a.2.2.1.length∧ymC a q i=true∧(yU a q).1=yzV a q i:=by
 unfold yU at h ⊢;cases hk:leb 0 (yR (ymC a q) (List.range a.2.2.1.length))
 ·rw[hk]at h; cases h
 ·obtain⟨h1,h2⟩:=yoM (d:=0) hk
  have h3:=zj6.1 h1;rw[List.length_range]at h3;refine⟨(yR (ymC a q) (List.range a.2.2.1.length)).toNat,by omega,?_,rfl⟩;unfold nth at h2;rwa[yLD (by omega)]at h2
theorem y6E {a:dA} {q:Int} (hg:yf a.2.1=true) (h:(yU a q).2=true):ycH a.2.1 (yU a q).1.2.1=true∧((yU a q).1.2.2.length:Int)=a.2.1.1-1:=by
 obtain⟨i,_,h1,h2⟩:=y7U h;rw[h2];simp only[ymC,Bool.and_eq_true,zj7,beq_iff_eq]at h1;exact⟨ybD.2 ⟨hg,h1.2.2.2.1.1,h1.2.2.2.1.2⟩,h1.2.2.2.2⟩
def yeM (r:dN) (a:dA) (i:Nat):dA:=ydq a i (yl r.1) (yo6 r)
def yc0 (a:dA) (r:dN):dA:=yz ((List.range a.2.2.1.length).foldl (yeM r) a)
theorem yql (r:dN) (a:dA) (i:Nat):(yeM r a i).2.2.1.length=a.2.2.1.length:=yqk _ _ _ _
theorem y6s (r:dN) {a:dA} (i:Nat) (h:ye a=true):yeM r a i=a:=yVP h _ _ _
theorem yKP (a:dA) (r:dN):(yc0 a r).2.2.1.length=a.2.2.1.length:=(yHA _).trans (yoL (yql r) _ _)
theorem yjL (a:dA) (r:dN):yG (yc0 a r)=yG a:=(ylh _).trans (yAE (one:=yeM r) (fun _ _=>ytt _ _ _ _) _ _)
theorem yOI {one:dA→Nat→dA} {d:List dW} (hl: ∀a i,(one a i).2.2.1.length=a.2.2.1.length) (ho: ∀a i,yaI d a→i<a.2.2.1.length→yaI d (one a i)): ∀(n:Nat) (a:dA),n≤a.2.2.1.length→yaI d a→yaI d ((List.range n).foldl one a)
 | 0,_,_,h=>h
 | n+1,a,hn,h=>by
  rw[List.range_succ,List.foldl_append];exact ho _ _ (yOI hl ho n a (by omega) h) (by rw[yoL hl]; exact hn)
theorem y5Q {d:List dW} {a:dA} (r:dN) (h:yaI d a):yaI d (yc0 a r):=y7x (yOI (yql r) (fun _ _ h hi=>yUx h (zkR hi)) _ a (Nat.le_refl _) h)
def yzS (p N x:Int) (data:List Int) (i:Int):Int:=bif i==p then x else nth data ((i-p-1+N).tmod N) 0
def ybH (p N s:Int) (data:List Int) (a:dA) (i:Nat):dA:=bif yeK a i s then ydq a i (ycA s) [yzS p N (yfZ data) data i]else a
def yL (a:dA) (s:Int) (data:List Int):dA:=(List.range a.2.2.1.length).foldl (ybH (yh a.2.1 s) a.2.1.1 s data) a
theorem ymG (p N s:Int) (data:List Int) (a:dA) (i:Nat):(ybH p N s data a i).2.2.1.length=a.2.2.1.length:=by
 unfold ybH; cases yeK a i s
 ·rfl
 ·exact yqk _ _ _ _
theorem y5D (p N s:Int) (data:List Int) {a:dA} (i:Nat) (h:ye a=true):ybH p N s data a i=a:=by
 unfold ybH; cases yeK a i s
 ·rfl
 ·exact yVP h _ _ _
theorem yNr (p N s:Int) (data:List Int) (a:dA) (i:Nat):yG (ybH p N s data a i)=yG a:=by
 unfold ybH; cases yeK a i s
 ·rfl
 ·exact ytt _ _ _ _
theorem y5E (a:dA) (s:Int) (data:List Int):(yL a s data).2.2.1.length=a.2.2.1.length:=yoL (ymG _ _ _ _) _ _
theorem yAm (a:dA) (s:Int) (data:List Int):yG (yL a s data)=yG a:=yAE (yNr _ _ _ _) _ _
theorem y26 {d:List dW} {a:dA} (s:Int) (data:List Int) (h:yaI d a):yaI d (yL a s data):=yOI (ymG _ _ _ _) (fun a i h hi=>by
 unfold ybH; cases yeK a i s
 ·exact h
 ·exact yUx h (zkR hi)) _ a (Nat.le_refl _) h
theorem y8U {N i p:Int} (h:3≤N∧N≤5) (hi:0≤i∧i<N) (hp:0≤p∧p≤N-1) (hne:i≠p):0≤(i-p-1+N).tmod N∧(i-p-1+N).tmod N<N-1:=by
 rw[Int.tmod_eq_emod_of_nonneg (by omega)];have:N=3∨N=4∨N=5:=by omega
 rcases this with rfl | rfl | rfl<;>omega
theorem y7b {N p x:Int} {data:List Int} (h:3≤N∧N≤5) (hp:0≤p∧p≤N-1) (hd:(data.length:Int)=N-1) :
  (List.range data.length).foldl (fun l (i:Nat)=>l.set ((p+1+i).tmod N).toNat (nth data i 0)) ((List.replicate N.toNat 0).set p.toNat x)=(List.range N.toNat).map (fun(i:Nat)=>yzS p N x data i):=by
 have:N=3∨N=4∨N=5:=by omega
 rcases this with rfl | rfl | rfl
 ·match data,hd with
  | [a,b],_ =>
   have:p=0∨p=1∨p=2:=by omega
   rcases this with rfl | rfl | rfl<;>simp[yzS,nth,List.range_succ,List.replicate_succ]
  | [],hd=>simp at hd
  | [_],hd=>simp at hd
  | _::_::_::_,hd=>simp only[List.length_cons]at hd; omega
 ·match data,hd with
  | [a,b,c],_ =>
   have:p=0∨p=1∨p=2∨p=3:=by omega
   rcases this with rfl | rfl | rfl | rfl<;>simp[yzS,nth,List.range_succ,List.replicate_succ]
  | [],hd=>simp at hd
  | [_],hd=>simp at hd
  | [_,_],hd=>simp at hd
  | _::_::_::_::_,hd=>simp only[List.length_cons]at hd; omega
 ·match data,hd with
  | [a,b,c,d],_ =>
   have:p=0∨p=1∨p=2∨p=3∨p=4:=by omega
   rcases this with rfl | rfl | rfl | rfl | rfl<;>simp[yzS,nth,List.range_succ,List.replicate_succ]
  | [],hd=>simp at hd
  | [_],hd=>simp at hd
  | [_,_],hd=>simp at hd
  | [_,_,_],hd=>simp at hd
  | _::_::_::_::_::_,hd=>simp only[List.length_cons]at hd; omega
def ygW (a:dA):dA:=yc0 a (yU a a.2.2.2.2.2.1).1
def ype (a:dA):dA:=yL (yQ (ygW a)) (yU a a.2.2.2.2.2.1).1.2.1 (yU a a.2.2.2.2.2.1).1.2.2
def ytP (_:Nat) (a:dA):dA ⊕ (dA ⊕ dA) :=bif !(yU a a.2.2.2.2.2.1).2||leb 60000 a.2.2.2.2.2.1 then .inr (.inl a)else bif ye (ygW a)then .inr (.inr (ygW a))else bif ye (ype a)then .inr (.inr (ype a))else .inl (ype a)
def yPk (a:dA):dA:=match goE ytP .inl 4 0 a with
 | .inl b=>yZ b
 | .inr b=>b
def ymD (a:dA):dA:=bif yE a&&(!(ye a)&&(!a.2.2.2.2.2.2.2.2.2.2.2&&ltb a.2.2.2.2.2.2.2.1 60000))then yPk a else a
def yzL (l:List dM) (ks:List Int) (id fuse:Int):dA×Bool :=bif(yca (ybc l ks) id).2 then(ymD (bif leb (-1) fuse&&leb fuse 1000 then yw2 (yca (ybc l ks) id).1 fuse (ye (yca (ybc l ks) id).1)else(yca (ybc l ks) id).1),true)else(yK,false)
theorem yV3 (a:dA):(ygW a).2.1=a.2.1:=ycW (yjL _ _)
theorem y50 (a:dA):(ype a).2.1=a.2.1:=(ycW (yAm (yQ (ygW a)) _ _)).trans (yV3 a)
theorem y51 (a:dA):(ype a).2.2.1.length=a.2.2.1.length:=(y5E (yQ (ygW a)) _ _).trans (yKP a _)
theorem y27 {d:List dW} {a:dA} (h:yaI d a):yaI d (ygW a):=y5Q _ h
theorem y28 {d:List dW} {a:dA} (h:yaI d a):yaI d (ype a):=y26 (a:=yQ (ygW a)) _ _ (y27 h)
theorem y5P {d:List dW}: ∀(k i:Nat) (a:dA),yaI d a→(match goE ytP .inl k i a with | .inl b=>yaI d b | .inr b=>yaI d b)
 | 0,_,_,h=>h
 | k+1,i,a,h=>by
  unfold goE ytP;cases(!(yU a a.2.2.2.2.2.1).2||leb 60000 a.2.2.2.2.2.1)
  ·cases ye (ygW a)
   ·cases ye (ype a)
    ·exact y5P k (i+1) (ype a) (y28 h)
    ·exact y28 h
   ·exact y27 h
  ·exact h
theorem y7Z {d:List dW} {a:dA} (h:yaI d a):yaI d (yPk a):=by
 have:=y5P 4 0 a h;unfold yPk;cases hg:goE ytP .inl 4 0 a with
 | inl b=>rw[hg]at this; exact yLq this
 | inr b=>rw[hg]at this; exact this
theorem y6n {d:List dW} {a:dA} (h:yaI d a):yaI d (ymD a):=by
 unfold ymD;cases(yE a&&(!(ye a)&&(!a.2.2.2.2.2.2.2.2.2.2.2&&ltb a.2.2.2.2.2.2.2.1 60000)))
 ·exact h
 ·exact y7Z h
theorem y52: ∀(k i:Nat) (a b:dA),ye a=false→goE ytP .inl k i a= .inl b→ye b=false
 | 0,_,a,b,h,e=>by cases e; exact h
 | k+1,i,a,b,h,e=>by
  unfold goE ytP at e;cases hc:(!(yU a a.2.2.2.2.2.1).2||leb 60000 a.2.2.2.2.2.1)
  ·rw[hc]at e
   cases hd1:ye (ygW a)
   ·rw[hd1]at e
    cases hd2:ye (ype a)
    ·rw[hd2]at e
     exact y52 k (i+1) (ype a) b hd2 e
    ·rw[hd2]at e; cases e
   ·rw[hd1]at e; cases e
  ·rw[hc]at e; cases e; exact h
def yw (a:dA):dA:=bif leb 4 (i64.wrap (a.2.2.2.2.2.1-a.2.2.2.2.2.2.1))then yZ a else a
def yad (a:dA) (s:Int) (d:List Int):Int×dA :=bif ye (yw a)then(6,yw a)else bif ye (yc0 (yw a) ((yw a).2.2.2.2.2.1,s,d))then(6,yc0 (yw a) ((yw a).2.2.2.2.2.1,s,d))else (bif ye (yL (yQ (yc0 (yw a) ((yw a).2.2.2.2.2.1,s,d))) s d)then 6 else 0,yL (yQ (yc0 (yw a) ((yw a).2.2.2.2.2.1,s,d))) s d)
theorem yNo (a:dA):(yZ a).2.1=a.2.1:=by
 unfold yZ;cases ye (yz a)
 ·exact(ycW (ygX (ycE (yz a)))).trans (show(yz a).2.1=a.2.1 from ycW (ylh a))
 ·exact ycW (ylh a)
theorem y6y (a:dA):(yw a).2.1=a.2.1:=by
 unfold yw;cases leb 4 (i64.wrap (a.2.2.2.2.2.1-a.2.2.2.2.2.2.1))
 ·rfl
 ·exact yNo a
theorem y8f (a:dA):(yw a).2.2.1.length=a.2.2.1.length:=by
 unfold yw;cases leb 4 (i64.wrap (a.2.2.2.2.2.1-a.2.2.2.2.2.2.1))
 ·rfl
 ·exact yIa a
theorem y63 {d:List dW} {a:dA} (s:Int) (data:List Int) (h:yaI d a):yaI d (yad a s data).2:=by
 have hc:yaI d (yw a):=by
  unfold yw;cases leb 4 (i64.wrap (a.2.2.2.2.2.1-a.2.2.2.2.2.2.1))
  ·exact h
  ·exact yLq h
 unfold yad;have hr:=y5Q ((yw a).2.2.2.2.2.1,s,data) hc;generalize yc0 (yw a) ((yw a).2.2.2.2.2.1,s,data)=R at hr ⊢;have hq:yaI d (yL (yQ R) s data):=y26 (a:=yQ R) _ _ hr;generalize yL (yQ R) s data=Q at hq ⊢;cases ye (yw a)
 ·cases ye R
  ·exact hq
  ·exact hr
 ·exact hc
def y3G:Code:=(f83.body).getD .skip
def y4e:Env:=zkw TT [(72,ym)] []
theorem yTv:FrOk prog ⟨y4e,9,fun _=>none⟩ y3G:=zkA mixed yd ⟨yv,trivial⟩
abbrev yBO:List Par:= [.pt tU .fz,.rd tI]
abbrev yCn:List OT:= [⟨false,tB,.fz⟩]
def yal (a0:dU) (a1:Int):Option (zaY yCn×zak yBO) :=bnd (yb a0 a1) fun r1 =>some (((r1.1.1==0),()),(r1.2.1,()))
theorem yY9:ConOk prog 83 ⟨yBO,yCn,fun x=>yal x.1 x.2.1⟩:=zkI (yTv) func83 ntmps83.symm fun x=>by kernel_rfl
def yji:Con:=⟨yBO,yCn,fun x=>yal x.1 x.2.1⟩
theorem yqj:ConOk prog 83 yji:=yY9
theorem yKc (u:dU) (n:Int) (h:yA u): ∃(r:Bool) (u':dU),yal u n=some ((r,()),(u',()))∧yA u':=by
 unfold yal;obtain⟨r,u1,e1,_,d1⟩:=yo u n h;simp only[e1,zkH];exact⟨_,_,rfl,d1⟩
def yf1:Code:=(f76.body).getD .skip
def ymc:Env:=zkw TT [] [(21056,.fz),(21120,.fz),(37952,(.pr .fz .fz)),(38016,(.pr .fz .fz))]
theorem yTy:FrOk prog ⟨ymc,60,fun _=>none⟩ yf1:=zkA mixed yd trivial
def yHI:Nat→Option Seg:=fun _=>none
def ycN:Shape:=⟨[(1,false,[.ptr 0 0]),(2,false,[.ptr 64 0]),(3,false,[.ptr 4544 0]),(4,false,[.int .i64])],[(0,[.br tL,.br tW,.bool,.br tI]),(64,[.nil,.nil,.bool,.nil]),(4544,[.at 800000001,.nil,.bool,.at 800000000])],[(800000001,tL,.fz),(800000000,tI,.fz)]⟩
def yhw:Shape:=⟨[(1,false,[.ptr 0 0]),(2,false,[.ptr 64 0]),(3,false,[.ptr 4544 0]),(4,false,[.ci .i64 0])],[(0,[.br tL,.br tW,.bool,.br tI]),(64,[.nil,.nil,.bool,.nil]),(4544,[.at 800000001,.nil,.bool,.at 800000000])],[(800000001,tL,.fz),(800000000,tI,.fz)]⟩
def yhj:Shape:=⟨[(1,false,[.ptr 0 0]),(2,false,[.ptr 64 0]),(3,false,[.ptr 4544 0])],[(0,[.br tL,.br tW,.bool,.br tI]),(64,[.nil,.nil,.bool,.nil]),(4544,[.at 800000000,.nil,.bool,.at 800000001])],[(800000000,tL,.fz),(800000001,tI,.fz)]⟩
def ylx:Shape:=⟨[],[],[]⟩
abbrev yq2 (v0:Int) (v1 v2 v3:dM):(ycN).X:=((((),()),((),()),((),()),(v0,()),()),((v1.1,v1.2.1,v1.2.2.1,v1.2.2.2,()),((),(),v2.2.2.1,(),()),((),(),v3.2.2.1,(),()),()),(v3.1,v3.2.2.2,()))
abbrev yQ3 (v0 v1 v2:dM):(yhw).X:=((((),()),((),()),((),()),((),()),()),((v0.1,v0.2.1,v0.2.2.1,v0.2.2.2,()),((),(),v1.2.2.1,(),()),((),(),v2.2.2.1,(),()),()),(v2.1,v2.2.2.2,()))
abbrev yD8 (v0 v1 v2:dM):(yhj).X:=((((),()),((),()),((),()),()),((v0.1,v0.2.1,v0.2.2.1,v0.2.2.2,()),((),(),v1.2.2.1,(),()),((),(),v2.2.2.1,(),()),()),(v2.1,v2.2.2.2,()))
def yrF (v0:Int) (v1:List (List Int)) (v2:List dW) (v3:Bool) (v4:List Int) (v5 v6:Bool) (v7:List (List Int)) (v8:List Int):Option ((ycN).X ⊕ ((yhj).X ⊕ (ylx).X)) :=bif(ltb v0 (v1.length:Int))then bif(inb v0 v1.length)then bif(zkl ([]:List Int).length (nth v1 v0 []).length 8)then bif(zkl v7.length ([(([]:List Int)++(nth v1 v0 []))]:List (List Int)).length 24)then some (.inl ((((),()),((),()),((),()),((i64.wrap (v0+1)),()),()),((v1,v2,v3,v4,()),((),(),v5,(),()),((),(),v6,(),()),()),((v7++([(([]:List Int)++(nth v1 v0 []))]:List (List Int))),v8,()))) else none else none else none else some (.inr (.inl ((((),()),((),()),((),()),()),((v1,v2,v3,v4,()),((),(),v5,(),()),((),(),v6,(),()),()),(v7,v8,()))))
def ydj (x:(ycN).X):=yrF x.1.2.2.2.1.1 x.2.1.1.1 x.2.1.1.2.1 x.2.1.1.2.2.1 x.2.1.1.2.2.2.1 x.2.1.2.1.2.2.1 x.2.1.2.2.1.2.2.1 x.2.2.1 x.2.2.2.1
def yDL (x:(yhw).X):(ycN).X:=((((),()),((),()),((),()),(0,()),()),((x.2.1.1.1,x.2.1.1.2.1,x.2.1.1.2.2.1,x.2.1.1.2.2.2.1,()),((),(),x.2.1.2.1.2.2.1,(),()),((),(),x.2.1.2.2.1.2.2.1,(),()),()),(x.2.2.1,x.2.2.2.1,()))
def yFM:Code:=(zd7 yf1 64 116).getD .skip
theorem ySP:zd7 yf1 64 29=some (.block 0 (.loop yFM)):=by kernel_rfl
theorem yVU (x:(ycN).X):zhu ⟨ymc,60,yHI⟩ 0 yFM 116 ycN yhj ylx x=ydj x:=by kernel_rfl
def yDY (x:(yhw).X):Nat:=18446744073709551616
def ysK (x:(yhw).X):Option ((yhj).X ⊕ (ylx).X):=zF ydj (yDY x) (yDL x)
def yEk:Seg:=⟨yhw,yhj,ylx,ysK⟩
def yuv:Nat→Option Seg:=fun q=>bif Nat.beq q 29 then some yEk else yHI q
theorem yTz:FrOk prog ⟨ymc,60,yuv⟩ yf1:=(yTy).loop (sg:=yEk) ycN yDL (by decide) ySP ydj yDY (by decide) (fun _=>rfl) (fun x r _ h=>h) yVU
def ycO:Shape:=⟨[(1,false,[.ptr 0 0]),(2,false,[.ptr 64 0]),(3,false,[.ptr 4544 0]),(5,false,[.int .i64])],[(0,[.br tL,.br tW,.bool,.br tI]),(64,[.nil,.nil,.bool,.nil]),(4544,[.at 800000000,.at 800000002,.bool,.at 800000001])],[(800000000,tL,.fz),(800000002,tW,(.pr .fz .fz)),(800000001,tI,.fz)]⟩
def yhx:Shape:=⟨[(1,false,[.ptr 0 0]),(2,false,[.ptr 64 0]),(3,false,[.ptr 4544 0]),(5,false,[.ci .i64 0])],[(0,[.br tL,.br tW,.bool,.br tI]),(64,[.nil,.nil,.bool,.nil]),(4544,[.at 800000000,.at 800000002,.bool,.at 800000001])],[(800000000,tL,.fz),(800000002,tW,(.pr .fz .fz)),(800000001,tI,.fz)]⟩
def yhk:Shape:=⟨[(2,false,[.ptr 64 0]),(3,false,[.ptr 4544 0])],[(64,[.nil,.nil,.bool,.nil]),(4544,[.at 800000000,.at 800000001,.bool,.at 800000002])],[(800000000,tL,.fz),(800000001,tW,(.pr .fz .fz)),(800000002,tI,.fz)]⟩
def yly:Shape:=⟨[],[],[]⟩
abbrev yq3 (v0:Int) (v1 v2 v3:dM):(ycO).X:=((((),()),((),()),((),()),(v0,()),()),((v1.1,v1.2.1,v1.2.2.1,v1.2.2.2,()),((),(),v2.2.2.1,(),()),((),(),v3.2.2.1,(),()),()),(v3.1,v3.2.1,v3.2.2.2,()))
abbrev yQ4 (v0 v1 v2:dM):(yhx).X:=((((),()),((),()),((),()),((),()),()),((v0.1,v0.2.1,v0.2.2.1,v0.2.2.2,()),((),(),v1.2.2.1,(),()),((),(),v2.2.2.1,(),()),()),(v2.1,v2.2.1,v2.2.2.2,()))
abbrev yD9 (v0 v1:dM):(yhk).X:=((((),()),((),()),()),(((),(),v0.2.2.1,(),()),((),(),v1.2.2.1,(),()),()),(v1.1,v1.2.1,v1.2.2.2,()))
def yrG (v0:Int) (v1:List (List Int)) (v2:List dW) (v3:Bool) (v4:List Int) (v5 v6:Bool) (v7:List (List Int)) (v8:List dW) (v9:List Int):Option ((ycO).X ⊕ ((yhk).X ⊕ (yly).X)) :=bif(ltb v0 (v2.length:Int))then bif(inb v0 v2.length)then bif(inb v0 v2.length)then bif(zkl ([]:List Int).length ((nth v2 v0 (0,[])).2).length 8)then bif(zkl v8.length ([((nth v2 v0 (0,[])).1,(([]:List Int)++((nth v2 v0 (0,[])).2)))]:List dW).length 32)then some (.inl ((((),()),((),()),((),()),((i64.wrap (v0+1)),()),()),((v1,v2,v3,v4,()),((),(),v5,(),()),((),(),v6,(),()),()),(v7,(v8++([((nth v2 v0 (0,[])).1,(([]:List Int)++((nth v2 v0 (0,[])).2)))]:List dW)),v9,()))) else none else none else none else none else some (.inr (.inl ((((),()),((),()),()),(((),(),v5,(),()),((),(),v6,(),()),()),(v7,v8,v9,()))))
def ydk (x:(ycO).X):=yrG x.1.2.2.2.1.1 x.2.1.1.1 x.2.1.1.2.1 x.2.1.1.2.2.1 x.2.1.1.2.2.2.1 x.2.1.2.1.2.2.1 x.2.1.2.2.1.2.2.1 x.2.2.1 x.2.2.2.1 x.2.2.2.2.1
def yDM (x:(yhx).X):(ycO).X:=((((),()),((),()),((),()),(0,()),()),((x.2.1.1.1,x.2.1.1.2.1,x.2.1.1.2.2.1,x.2.1.1.2.2.2.1,()),((),(),x.2.1.2.1.2.2.1,(),()),((),(),x.2.1.2.2.1.2.2.1,(),()),()),(x.2.2.1,x.2.2.2.1,x.2.2.2.2.1,()))
def yFN:Code:=(zd7 yf1 64 244).getD .skip
theorem ySQ:zd7 yf1 64 61=some (.block 2 (.loop yFN)):=by kernel_rfl
theorem yVV (x:(ycO).X):zhu ⟨ymc,60,yuv⟩ 2 yFN 244 ycO yhk yly x=ydk x:=by kernel_rfl
def yDZ (x:(yhx).X):Nat:=18446744073709551616
def ysL (x:(yhx).X):Option ((yhk).X ⊕ (yly).X):=zF ydk (yDZ x) (yDM x)
def yEl:Seg:=⟨yhx,yhk,yly,ysL⟩
def yWt:Nat→Option Seg:=fun q=>bif Nat.beq q 61 then some yEl else yuv q
theorem yTA:FrOk prog ⟨ymc,60,yWt⟩ yf1:=(yTz).loop (sg:=yEl) ycO yDM (by decide) ySQ ydk yDZ (by decide) (fun _=>rfl) (fun x r _ h=>h) yVV
abbrev ysj:List Par:= [.rd tM]
abbrev yCq:List OT:= [⟨false,tM,(.pr (.ow .fz) (.pr (.ow (.pr .fz .fz)) (.pr .fz (.ow .fz))))⟩]
def ywT (a0:dM):Option (zaY yCq×zak ysj) :=bif(zkl ([]:List Int).length a0.2.2.2.length 8)then zkt (ysK ((((),()),((),()),((),()),((),()),()),((a0.1,a0.2.1,a0.2.2.1,a0.2.2.2,()),((),(),false,(),()),((),(),a0.2.2.1,(),()),()),([],(([]:List Int)++a0.2.2.2),()))) (fun y0 =>zkt (ysL ((((),()),((),()),((),()),((),()),()),((y0.2.1.1.1,y0.2.1.1.2.1,y0.2.1.1.2.2.1,y0.2.1.1.2.2.2.1,()),((),(),y0.2.1.2.1.2.2.1,(),()),((),(),y0.2.1.2.2.1.2.2.1,(),()),()),(y0.2.2.1,[],y0.2.2.2.1,()))) (fun y1 =>some (((y1.2.2.1,y1.2.2.2.1,y1.2.1.2.1.2.2.1,y1.2.2.2.2.1),()),())) (fun y1 =>none)) (fun y0 =>none) else none
theorem yZc:ConOk prog 76 ⟨ysj,yCq,fun x=>ywT x.1⟩:=zkI (yTA) func76 ntmps76.symm fun x=>by kernel_rfl
def yD (a0:dM):dM:=a0
theorem y1A (a0:dM) (hk:zjx ysj (a0,())):ywT a0=(fun n=>some ((n,()),())) (yD a0):=by
 have hb1:a0.1.length*24≤2^47:=hk.1.1.1;have hb2:a0.2.1.length*32≤2^47:=hk.1.2.1.1;have hb3:a0.2.2.2.length*8≤2^47:=hk.1.2.2.2.1;have hs: ∀i,i<a0.1.length→(a0.1.getD i []).length*8≤2^47:=fun i hi=>by rw[zkJ hi]; exact(hk.1.1.2 _ (List.getElem_mem hi)).1
 have hc: ∀i,i<a0.2.1.length→(a0.2.1.getD i (0,[])).2.length*8≤2^47:=fun i hi=>by rw[zkJ hi]; exact(hk.1.2.1.2 _ (List.getElem_mem hi)).2.1
 have h1:ysK (yQ3 a0 yc ([],[],a0.2.2.1,a0.2.2.2))=some (.inl (yD8 a0 yc (a0.1,[],a0.2.2.1,a0.2.2.2))):=by
  have:=zkx (step:=ydj) a0.1 [] (fun i s=>yq2 i a0 yc (s,[],a0.2.2.1,a0.2.2.2)) (fun s x=>s++ [x]) (fun i s=>s.length=i) (fun s=> .inl (yD8 a0 yc (s,[],a0.2.2.1,a0.2.2.2))) (fun i s hi hs2=>⟨by
   have:=hs i hi;simp only[ydj,yq2,yrF,zky (show(i:Int)<a0.1.length by omega),cond_true,wq ((i:Int)+1) (by omega) (by omega),Int.natCast_add,Int.natCast_one,Int.toNat_natCast,zkR hi,zkS,List.nil_append]
   rw[zkF.2 (show(([]:List Int).length+(a0.1.getD i []).length)*8≤140737488355328 by rw[List.length_nil]; omega),zkF.2 (show(s.length+ [a0.1.getD i []].length)*24≤140737488355328 by simp only[List.length_cons,List.length_nil]; omega)]; rfl,by simp[hs2]⟩) (fun s _=>by simp only[ydj,yq2,yrF,zk3 (Int.le_refl _),cond_false]) [] rfl 18446744073709551616 (by omega)
  rw[ys9]at this;exact this
 have h2:ysL (yQ4 a0 yc (a0.1,[],a0.2.2.1,a0.2.2.2))=some (.inl (yD9 yc a0)):=by
  have:=zkx (step:=ydk) a0.2.1 (0,[]) (fun i s=>yq3 i a0 yc (a0.1,s,a0.2.2.1,a0.2.2.2)) (fun s x=>s++ [x]) (fun i s=>s.length=i) (fun s=> .inl (yD9 yc (a0.1,s,a0.2.2.1,a0.2.2.2))) (fun i s hi hs2=>⟨by
   have:=hc i hi;simp only[ydk,yq3,yrG,zky (show(i:Int)<a0.2.1.length by omega),cond_true,wq ((i:Int)+1) (by omega) (by omega),Int.natCast_add,Int.natCast_one,Int.toNat_natCast,zkR hi,zkS,List.nil_append,zkX]
   rw[zkF.2 (show(([]:List Int).length+(a0.2.1.getD i (0,[])).2.length)*8≤140737488355328 by rw[List.length_nil]; omega),zkF.2 (show(s.length+ [a0.2.1.getD i (0,[])].length)*32≤140737488355328 by simp only[List.length_cons,List.length_nil]; omega)]; rfl,by simp[hs2]⟩) (fun s _=>by simp only[ydk,yq3,yrG,zk3 (Int.le_refl _),cond_false]) [] rfl 18446744073709551616 (by omega)
  rw[ys9]at this;exact this
 unfold ywT yD;rw[zkF.2 (show(([]:List Int).length+a0.2.2.2.length)*8≤140737488355328 by rw[List.length_nil]; omega)];simp only[cond_true,List.nil_append,h1,zkN,h2]
def ycd:Con:=⟨ysj,yCq,fun x=>(fun n=>some ((n,()),())) (yD x.1)⟩
theorem ye4:ConOk prog 76 ycd:=(yZc).mono (fun x r hk h=>(y1A x.1 hk).trans h)
def y0b:Code:=(f143.body).getD .skip
def y0E:Env:=zkw TT [(76,ycd)] [(12288,(.pr .fz .fz))]
theorem yQs:FrOk prog ⟨y0E,10,fun _=>none⟩ y0b:=zkA mixed yd ⟨ye4,trivial⟩
abbrev yyG:List Par:= [.rd tM]
abbrev yyX:List OT:= [⟨false,tM,(.pr (.ow .fz) (.pr (.ow (.pr .fz .fz)) (.pr .fz (.ow .fz))))⟩]
def yHg (a0:dM):Option (zaY yyX×zak yyG) :=let r1:=yD a0;some (((r1.1,([]:List dW),true,r1.2.2.2),()),())
theorem yVd:ConOk prog 143 ⟨yyG,yyX,fun x=>yHg x.1⟩:=zkI (yQs) func143 ntmps143.symm fun x=>by kernel_rfl
def yg1 (a0:dM):dM :=let r1:=yD a0;(r1.1,([]:List dW),true,r1.2.2.2)
def ylH:Con:=⟨yyG,yyX,fun x=>(fun n=>some ((n,()),())) (yg1 x.1)⟩
theorem yYu (a0:dM):yHg a0=(fun n=>some ((n,()),())) (yg1 a0):=zkV (p:=fun(n:dM)=>((n,()),())) rfl
theorem ywD:ConOk prog 143 ylH:=(yVd).mono (fun x r _ h=>(yYu x.1).trans h)
def yll:Code:=(f245.body).getD .skip
def ysF:Env:=zkw TT [] []
theorem yMp:FrOk prog ⟨ysF,28,fun _=>none⟩ yll:=zkA mixed yd trivial
def yz0:Nat→Option Seg:=fun _=>none
def ya6:Shape:=⟨[(0,false,[.br tI]),(1,false,[.int .i64]),(5,false,[.at 800000000]),(6,false,[.int .i64])],[],[(800000000,tI,.fz)]⟩
def yeI:Shape:=⟨[(0,false,[.br tI]),(1,false,[.int .i64]),(5,false,[.at 800000000]),(6,false,[.ci .i64 0])],[],[(800000000,tI,.fz)]⟩
def yez:Shape:=⟨[(5,false,[.at 800000000])],[],[(800000000,tI,.fz)]⟩
def yh4:Shape:=⟨[],[],[]⟩
abbrev ylT (v0:List Int) (v1 v2:Int) (v3:List Int):(ya6).X:=(((v0,()),(v1,()),((),()),(v2,()),()),(),(v3,()))
abbrev yLp (v0:List Int) (v1:Int) (v2:List Int):(yeI).X:=(((v0,()),(v1,()),((),()),((),()),()),(),(v2,()))
abbrev yLg (v0:List Int):(yez).X:=((((),()),()),(),(v0,()))
def yma (v0:List Int) (v1 v2:Int) (v3:List Int):Option ((ya6).X ⊕ ((yez).X ⊕ (yh4).X)) :=bif(ltb v2 (v0.length:Int))then bif(inb v2 v0.length)then bif((nth v0 v2 0) !=v1)then bif(inb v2 v0.length)then bif(zkl v3.length ([(nth v0 v2 0)]:List Int).length 8)then some (.inl (((v0,()),(v1,()),((),()),((i64.wrap (v2+1)),()),()),(),((v3++([(nth v0 v2 0)]:List Int)),()))) else none else none else some (.inl (((v0,()),(v1,()),((),()),((i64.wrap (v2+1)),()),()),(),(v3,()))) else none else some (.inr (.inl ((((),()),()),(),(v3,()))))
def ybl (x:(ya6).X):=yma x.1.1.1 x.1.2.1.1 x.1.2.2.2.1.1 x.2.2.1
def ywa (x:(yeI).X):(ya6).X:=(((x.1.1.1,()),(x.1.2.1.1,()),((),()),(0,()),()),(),(x.2.2.1,()))
def yxr:Code:=(zd7 yll 64 116).getD .skip
theorem yMc:zd7 yll 64 29=some (.block 0 (.loop yxr)):=by kernel_rfl
theorem yM0 (x:(ya6).X):zhu ⟨ysF,28,yz0⟩ 0 yxr 116 ya6 yez yh4 x=ybl x:=by kernel_rfl
def ywl (x:(yeI).X):Nat:=18446744073709551616
def ymQ (x:(yeI).X):Option ((yez).X ⊕ (yh4).X):=zF ybl (ywl x) (ywa x)
def yxb:Seg:=⟨yeI,yez,yh4,ymQ⟩
def yM8:Nat→Option Seg:=fun q=>bif Nat.beq q 29 then some yxb else yz0 q
theorem yMq:FrOk prog ⟨ysF,28,yM8⟩ yll:=(yMp).loop (sg:=yxb) ya6 ywa (by decide) yMc ybl ywl (by decide) (fun _=>rfl) (fun x r _ h=>h) yM0
abbrev ylr:List Par:= [.rd tL,.rd tI]
abbrev ysY:List OT:= [⟨false,tL,(.ow .fz)⟩]
def ypd (a0:List Int) (a1:Int):Option (zaY ysY×zak ylr) :=zkt (ymQ (((a0,()),(a1,()),((),()),((),()),()),(),(([]:List Int),()))) (fun y0 =>some ((y0.2.2.1,()),())) (fun y0 =>none)
theorem yOU:ConOk prog 245 ⟨ylr,ysY,fun x=>ypd x.1 x.2.1⟩:=zkI (yMq) func245 ntmps245.symm fun x=>by kernel_rfl
def yhR (a0:List Int) (a1:Int):List Int:=y2I a0 a1
theorem yNv {α:Type} (p:α→Bool): ∀(l:List α) (s:List α),l.foldl (fun s x=>bif p x then s++ [x]else s) s=s++l.filter p
 | [],s=>by simp
 | x::l,s=>by
  rw[List.foldl_cons,yNv p l,List.filter_cons];cases p x<;>simp
theorem yRj (a0:List Int) (a1:Int) (hk:zjx ylr (a0,a1,())):ypd a0 a1=(fun n=>some ((n,()),())) (yhR a0 a1):=by
 have hb:a0.length*8≤2^47:=hk.1.1
 have h1:=zkx (step:=ybl) a0 0 (fun i s=>ylT a0 a1 i s) (fun s x=>bif x !=a1 then s++ [x]else s) (fun i s=>s.length≤i) (fun s=> .inl (yLg s)) (fun i s hi hs=>by
   constructor
   ·simp only[ybl,ylT,yma,zky (show(i:Int)<a0.length by omega),cond_true,wq ((i:Int)+1) (by omega) (by omega),Int.natCast_add,Int.natCast_one,Int.toNat_natCast,zkR hi,zkS]
    rw[zkF.2 (show(s.length+ [a0.getD i 0].length)*8≤140737488355328 by simp only[List.length_cons,List.length_nil]; omega)];cases(a0.getD i 0 !=a1)<;>rfl
   ·cases(a0.getD i 0 !=a1)
    ·show s.length≤_; omega
    ·simp only[cond_true,List.length_append,List.length_cons,List.length_nil]; omega) (fun s _=>by simp only[ybl,ylT,yma,zk3 (Int.le_refl _),cond_false]) [] (Nat.le_refl _) 18446744073709551616 (by omega)
 unfold ypd yhR y2I;rw[show ymQ (yLp a0 a1 [])=_ from h1,yNv]; rfl
def yAl:Con:=⟨ylr,ysY,fun x=>(fun n=>some ((n,()),())) (yhR x.1 x.2.1)⟩
theorem yRU:ConOk prog 245 yAl:=(yOU).mono (fun x r hk h=>(yRj x.1 x.2.1 hk).trans h)
def yWm:Code:=(f225.body).getD .skip
def yWT:Env:=zkw TT [(76,ycd),(82,yq),(160,yeV),(202,yzc),(245,yAl)] [(16832,(.pr .fz .fz))]
theorem yN6:FrOk prog ⟨yWT,55,fun _=>none⟩ yWm:=zkA mixed yd ⟨ye4,yy,yif,yLR,yRU,trivial⟩
abbrev ynM:List Par:= [.rd tM,.rd tI,.rd tL]
abbrev yvB:List OT:= [⟨false,tM,(.pr (.ow .fz) (.pr (.ow (.pr .fz .fz)) (.pr .fz (.ow .fz))))⟩,⟨false,tB,.fz⟩]
def yrx (a0:dM) (a1:Int) (a2:List Int):Option (zaY yvB×zak ynM) :=let r1:=yD a0;let r2:=yab a0;bif(!(!r2))then bif(!a0.2.2.1)then let r3:=ya a1 0 (i64.wrap ((a0.1.length:Int)-1));bif(!(!r3))then let r4:=yhP a2;bif(!(!r4))then bif(leb 60 (a0.2.1.length:Int))then some ((r1,false,()),()) else bif(zkl ([]:List Int).length a2.length 8)then bif(zkl r1.2.1.length ([(a1,(([]:List Int)++a2))]:List dW).length 32)then let r5:=yhR a0.2.2.2 a1;some (((r1.1,(r1.2.1++([(a1,(([]:List Int)++a2))]:List dW)),r1.2.2.1,r5),true,()),()) else none else none else some ((r1,false,()),()) else some ((r1,false,()),()) else some ((r1,false,()),()) else some ((r1,false,()),())
theorem yRJ:ConOk prog 225 ⟨ynM,yvB,fun x=>yrx x.1 x.2.1 x.2.2.1⟩:=zkI (yN6) func225 ntmps225.symm fun x=>by kernel_rfl
def ydV (a0:dM) (a1:Int) (a2:List Int):dM×Bool:=yf9 a0 a1 a2
theorem yUU (a0:dM) (a1:Int) (a2:List Int) (hk:zjx ynM (a0,a1,a2,())):yrx a0 a1 a2=(fun n=>some ((n.1,n.2,()),())) (ydV a0 a1 a2):=by
 have hb1:a0.1.length*24≤2^47:=hk.1.1.1;have hb2:a2.length*8≤2^47:=hk.2.2.1.1;unfold yrx ydV yf9 yy8;simp only[yD,yab,yrR (show a0.1.length≤1152921504606846976 by omega),yJI,yhR,List.nil_append];cases yu a0
 ·rfl
 cases a0.2.2.1
 ·cases inb a1 a0.1.length
  ·rfl
  cases yam a2
  ·rfl
  by_cases h:(a0.2.1.length:Int)<60
  ·rw[zky h,zk1 h,zkF.2 (show(([]:List Int).length+a2.length)*8≤140737488355328 by rw[List.length_nil]; omega),zkF.2 (show(a0.2.1.length+ [(a1,a2)].length)*32≤140737488355328 by simp only[List.length_cons,List.length_nil]; omega)]; rfl
  ·rw[zk3 (by omega),zk2 (by omega)]; rfl
 ·rfl
def yqW:Con:=⟨ynM,yvB,fun x=>(fun n=>some ((n.1,n.2,()),())) (ydV x.1 x.2.1 x.2.2.1)⟩
theorem yG5:ConOk prog 225 yqW:=(yRJ).mono (fun x r hk h=>(yUU x.1 x.2.1 x.2.2.1 hk).trans h)
def y6e:Code:=(f228.body).getD .skip
def y6g:Env:=zkw TT [] []
theorem y03:FrOk prog ⟨y6g,31,fun _=>none⟩ y6e:=zkA mixed yd trivial
abbrev yJt:List Par:= [.pt tA (.pr .fz (.pr (.pr .fz .fz) (.pr (.ow (.pr (.ow .fz) (.pr (.ow (.pr .fz .fz)) (.pr .fz (.ow .fz))))) (.pr .fz (.pr .fz (.pr .fz (.pr .fz (.pr .fz (.pr (.ow (.pr .fz .fz)) (.pr .fz (.pr .fz .fz)))))))))))]
abbrev yJx:List OT:= [⟨false,tB,.fz⟩]
def yLY (a0:dA):Option (zaY yJx×zak yJt) :=bif a0.2.2.2.2.2.2.2.2.2.2.1 then some ((false,()),(a0,())) else bif(a0.2.2.2.2.2.2.2.2.2.1==0)then some ((false,()),((a0.1,a0.2.1,a0.2.2.1,a0.2.2.2.1,a0.2.2.2.2.1,a0.2.2.2.2.2.1,a0.2.2.2.2.2.2.1,a0.2.2.2.2.2.2.2.1,a0.2.2.2.2.2.2.2.2.1,(-1),true,a0.2.2.2.2.2.2.2.2.2.2.2),())) else bif(ltb 0 a0.2.2.2.2.2.2.2.2.2.1)then some ((true,()),((a0.1,a0.2.1,a0.2.2.1,a0.2.2.2.1,a0.2.2.2.2.1,a0.2.2.2.2.2.1,a0.2.2.2.2.2.2.1,a0.2.2.2.2.2.2.2.1,a0.2.2.2.2.2.2.2.2.1,(i64.wrap (a0.2.2.2.2.2.2.2.2.2.1-1)),a0.2.2.2.2.2.2.2.2.2.2),())) else some ((true,()),(a0,()))
theorem y4N:ConOk prog 228 ⟨yJt,yJx,fun x=>yLY x.1⟩:=zkI (y03) func228 ntmps228.symm fun x=>by kernel_rfl
def yrT (a0:dA):Bool×dA :=bif a0.2.2.2.2.2.2.2.2.2.2.1 then (false,a0) else bif(a0.2.2.2.2.2.2.2.2.2.1==0)then (false,(a0.1,a0.2.1,a0.2.2.1,a0.2.2.2.1,a0.2.2.2.2.1,a0.2.2.2.2.2.1,a0.2.2.2.2.2.2.1,a0.2.2.2.2.2.2.2.1,a0.2.2.2.2.2.2.2.2.1,(-1),true,a0.2.2.2.2.2.2.2.2.2.2.2)) else bif(ltb 0 a0.2.2.2.2.2.2.2.2.2.1)then (true,(a0.1,a0.2.1,a0.2.2.1,a0.2.2.2.1,a0.2.2.2.2.1,a0.2.2.2.2.2.1,a0.2.2.2.2.2.2.1,a0.2.2.2.2.2.2.2.1,a0.2.2.2.2.2.2.2.2.1,(i64.wrap (a0.2.2.2.2.2.2.2.2.2.1-1)),a0.2.2.2.2.2.2.2.2.2.2)) else (true,a0)
def yCG:Con:=⟨yJt,yJx,fun x=>(fun n=>some ((n.1,()),(n.2,()))) (yrT x.1)⟩
theorem y5U (a0:dA):yLY a0=(fun n=>some ((n.1,()),(n.2,()))) (yrT a0):=zkV (p:=fun(n:Bool×dA)=>((n.1,()),(n.2,()))) (zkG (p:=fun(n:Bool×dA)=>((n.1,()),(n.2,()))) rfl (zkG (p:=fun(n:Bool×dA)=>((n.1,()),(n.2,()))) rfl (zkG (p:=fun(n:Bool×dA)=>((n.1,()),(n.2,()))) rfl rfl)))
theorem yO2:ConOk prog 228 yCG:=(y4N).mono (fun x r _ h=>(y5U x.1).trans h)
theorem yZ2 (a:dA):yrT a=opA a:=by kernel_rfl
def y5g:Code:=(f206.body).getD .skip
def y5v:Env:=zkw TT [(225,yqW),(228,yCG)] []
theorem yXV:FrOk prog ⟨y5v,43,fun _=>none⟩ y5g:=zkA mixed yd ⟨yG5,yO2,trivial⟩
abbrev yoy:List Par:= [.pt tA (.pr .fz (.pr (.pr .fz .fz) (.pr (.ow (.pr (.ow .fz) (.pr (.ow (.pr .fz .fz)) (.pr .fz (.ow .fz))))) (.pr .fz (.pr .fz (.pr .fz (.pr .fz (.pr .fz (.pr (.ow (.pr .fz .fz)) (.pr .fz (.pr .fz .fz))))))))))),.rd tI,.rd tI,.rd tL]
abbrev yvD:List OT:= []
def yzG (a0:dA) (a1 a2:Int) (a3:List Int):Option (zaY yvD×zak yoy) :=bif(inb a1 a0.2.2.1.length)then bif(!((((nth a0.2.2.1 a1 ([],[],false,[])).2).2).1))then let r1:=yrT a0;bif(!r1.1)then some ((),(r1.2,())) else bif(inb a1 r1.2.2.2.1.length)then let r2:=ydV ((nth r1.2.2.2.1 a1 ([],[],false,[])).1,((nth r1.2.2.2.1 a1 ([],[],false,[])).2).1,(((nth r1.2.2.2.1 a1 ([],[],false,[])).2).2)) a2 a3;bif(inb a1 r1.2.2.2.1.length)then some ((),((r1.2.1,r1.2.2.1,(r1.2.2.2.1.set (a1).toNat r2.1),r1.2.2.2.2),())) else none else none else some ((),(a0,())) else none
theorem y2c:ConOk prog 206 ⟨yoy,yvD,fun x=>yzG x.1 x.2.1 x.2.2.1 x.2.2.2.1⟩:=zkI (yXV) func206 ntmps206.symm fun x=>by kernel_rfl
def yo3 (a0:dA) (a1 a2:Int) (a3:List Int):dA:=ydq a0 a1 a2 a3
def yG9 (a0:dA) (a1 a2:Int) (a3:List Int):Bool:=inb a1 a0.2.2.1.length
theorem y4F (a0:dA) (a1 a2:Int) (a3:List Int) (hk:zjx yoy (a0,a1,a2,a3,())) (hq:yG9 a0 a1 a2 a3=true):yzG a0 a1 a2 a3=(fun n=>some ((),(n,()))) (yo3 a0 a1 a2 a3):=by
 have hq:inb a1 a0.2.2.1.length=true:=hq;unfold yzG yo3 ydq yjC;simp only[yZ2,yaT,hq,zkX,ydV];cases(nth a0.2.2.1 a1 yc).2.2.1<;>cases(opA a0).1<;>rfl
def yfI (a0:dA) (a1 a2:Int) (a3:List Int):Option (zaY yvD×zak yoy):=bif yG9 a0 a1 a2 a3 then(fun n=>some ((),(n,()))) (yo3 a0 a1 a2 a3)else none
theorem ymB (a0:dA) (a1 a2:Int) (a3:List Int) (h:yG9 a0 a1 a2 a3=true):yfI a0 a1 a2 a3=(fun n=>some ((),(n,()))) (yo3 a0 a1 a2 a3):=by unfold yfI; rw[h]; rfl
def ykF:Con:=⟨yoy,yvD,fun x=>yfI x.1 x.2.1 x.2.2.1 x.2.2.2.1⟩
theorem ysy:ConOk prog 206 ykF:=(y2c).mono (fun x r hk h=>zkY h (fun hq=>y4F x.1 x.2.1 x.2.2.1 x.2.2.2.1 hk hq))
def ynq:Code:=(f224.body).getD .skip
def yuE:Env:=zkw TT [(76,ycd),(160,yeV)] [(32768,(.pr .fz .fz))]
theorem yNX:FrOk prog ⟨yuE,40,fun _=>none⟩ ynq:=zkA mixed yd ⟨ye4,yif,trivial⟩
def yC6:Nat→Option Seg:=fun _=>none
def ybv:Shape:=⟨[(2,false,[.ptr 64 0]),(3,false,[.ptr 4224 0]),(4,false,[.int .i64])],[(64,[.nil,.nil,.bool,.nil]),(4224,[.at 800000000,.at 800000001,.bool,.at 800000002])],[(800000000,tL,.fz),(800000001,tW,(.pr .fz .fz)),(800000002,tI,.fz)]⟩
def yfy:Shape:=⟨[(2,false,[.ptr 64 0]),(3,false,[.ptr 4224 0]),(4,false,[.ci .i64 0])],[(64,[.nil,.nil,.bool,.nil]),(4224,[.at 800000000,.at 800000001,.bool,.at 800000002])],[(800000000,tL,.fz),(800000001,tW,(.pr .fz .fz)),(800000002,tI,.fz)]⟩
def yfn:Shape:=⟨[(2,false,[.ptr 64 0]),(3,false,[.ptr 4224 0])],[(64,[.nil,.nil,.bool,.nil]),(4224,[.at 800000000,.at 800000001,.bool,.at 800000002])],[(800000000,tL,.fz),(800000001,tW,(.pr .fz .fz)),(800000002,tI,.fz)]⟩
def yi9:Shape:=⟨[],[],[]⟩
abbrev ym3 (v0:Int) (v1 v2:dM):(ybv).X:=((((),()),((),()),(v0,()),()),(((),(),v1.2.2.1,(),()),((),(),v2.2.2.1,(),()),()),(v2.1,v2.2.1,v2.2.2.2,()))
abbrev yMC (v0 v1:dM):(yfy).X:=((((),()),((),()),((),()),()),(((),(),v0.2.2.1,(),()),((),(),v1.2.2.1,(),()),()),(v1.1,v1.2.1,v1.2.2.2,()))
abbrev yxZ (v0 v1:dM):(yfn).X:=((((),()),((),()),()),(((),(),v0.2.2.1,(),()),((),(),v1.2.2.1,(),()),()),(v1.1,v1.2.1,v1.2.2.2,()))
def yni (v0:Int) (v1 v2:Bool) (v3:List (List Int)) (v4:List dW) (v5:List Int):Option ((ybv).X ⊕ ((yfn).X ⊕ (yi9).X)) :=bif(ltb v0 (v4.length:Int))then bif(inb v0 v4.length)then bif(inb v0 v4.length)then bif(inb ((nth v4 v0 (0,[])).1) v3.length)then let r4:=(v3.set ((nth v4 v0 (0,[])).1).toNat ((nth v4 v0 (0,[])).2));some (.inl ((((),()),((),()),((i64.wrap (v0+1)),()),()),(((),(),v1,(),()),((),(),v2,(),()),()),(r4,v4,v5,()))) else none else none else none else some (.inr (.inl ((((),()),((),()),()),(((),(),v1,(),()),((),(),v2,(),()),()),(v3,v4,v5,()))))
def ybT (x:(ybv).X):=yni x.1.2.2.1.1 x.2.1.1.2.2.1 x.2.1.2.1.2.2.1 x.2.2.1 x.2.2.2.1 x.2.2.2.2.1
def yxF (x:(yfy).X):(ybv).X:=((((),()),((),()),(0,()),()),(((),(),x.2.1.1.2.2.1,(),()),((),(),x.2.1.2.1.2.2.1,(),()),()),(x.2.2.1,x.2.2.2.1,x.2.2.2.2.1,()))
def yAd:Code:=(zd7 ynq 64 244).getD .skip
theorem yNl:zd7 ynq 64 61=some (.block 0 (.loop yAd)):=by kernel_rfl
theorem yPe (x:(ybv).X):zhu ⟨yuE,40,yC6⟩ 0 yAd 244 ybv yfn yi9 x=ybT x:=by kernel_rfl
def yxR (x:(yfy).X):Nat:=18446744073709551616
def yot (x:(yfy).X):Option ((yfn).X ⊕ (yi9).X):=zF ybT (yxR x) (yxF x)
def yyc:Seg:=⟨yfy,yfn,yi9,yot⟩
def yPF:Nat→Option Seg:=fun q=>bif Nat.beq q 61 then some yyc else yC6 q
theorem yNY:FrOk prog ⟨yuE,40,yPF⟩ ynq:=(yNX).loop (sg:=yyc) ybv yxF (by decide) yNl ybT yxR (by decide) (fun _=>rfl) (fun x r _ h=>h) yPe
abbrev ynG:List Par:= [.rd tM]
abbrev yvu:List OT:= [⟨false,tM,(.pr (.ow .fz) (.pr (.ow (.pr .fz .fz)) (.pr .fz (.ow .fz))))⟩]
def yrr (a0:dM):Option (zaY yvu×zak ynG) :=let r1:=yD a0;let r2:=yab a0;bif(!(!r2))then bif a0.2.2.1 then some ((r1,()),()) else zkt (yot ((((),()),((),()),((),()),()),(((),(),false,(),()),((),(),r1.2.2.1,(),()),()),(r1.1,r1.2.1,r1.2.2.2,()))) (fun y4 =>some (((y4.2.2.1,([]:List dW),y4.2.1.2.1.2.2.1,y4.2.2.2.2.1),()),())) (fun y4 =>none) else some ((r1,()),())
theorem yRC:ConOk prog 224 ⟨ynG,yvu,fun x=>yrr x.1⟩:=zkI (yNY) func224 ntmps224.symm fun x=>by kernel_rfl
def ydT (a0:dM):dM:=yeW a0
theorem yUN (a0:dM) (hk:zjx ynG (a0,())):yrr a0=(fun n=>some ((n,()),())) (ydT a0):=by
 have hb2:a0.2.1.length*32≤2^47:=hk.1.2.1.1;unfold yrr ydT yeW;simp only[yD,yab];cases hm:yu a0
 ·rfl
 have h1:yot (yMC yc a0)=some (.inl (yxZ yc (ybI (fun _=>true) a0.2.1 a0.1,a0.2))) :=
  zkD (step:=ybT) a0.2.1.length (fun i s=>ym3 i yc (s,a0.2)) (ybz (fun _=>true) a0.2.1) (fun i s=>s.length=a0.1.length) (fun s=> .inl (yxZ yc (s,a0.2))) (fun i s hi hs=>by
   have hw:=(yLb hm hi).1;refine⟨?_,ywn.trans hs⟩
   simp only[ybT,ym3,yni,zky (show(i:Int)<a0.2.1.length by omega),cond_true,wq ((i:Int)+1) (by omega) (by omega),Int.natCast_add,Int.natCast_one,Int.toNat_natCast,zkR hi,hs,hw,ybz]) (fun s hs=>by simp only[ybT,ym3,yni,zk3 (Int.le_refl _),cond_false]) a0.1 rfl _ (by show _<18446744073709551616; omega)
 rw[h1];cases hf:a0.2.2.1
 ·exact congrArg (fun z=>some (((ybI (fun _=>true) a0.2.1 a0.1,([]:List dW),z,a0.2.2.2),()),())) hf
 ·rfl
def yqT:Con:=⟨ynG,yvu,fun x=>(fun n=>some ((n,()),())) (ydT x.1)⟩
theorem yG2:ConOk prog 224 yqT:=(yRC).mono (fun x r hk h=>(yUN x.1 hk).trans h)
def yr4:Code:=(f208.body).getD .skip
def yBy:Env:=zkw TT [(224,yqT),(228,yCG)] []
theorem yTW:FrOk prog ⟨yBy,39,fun _=>none⟩ yr4:=zkA mixed yd ⟨yG2,yO2,trivial⟩
def yHQ:Nat→Option Seg:=fun _=>none
def ydE:Shape:=⟨[(0,false,[.ptr 1000000000 0]),(2,false,[.int .i64])],[(1000000000,[.int .i64,.int .i64,.int .i64,.at 800000000,.int .i64,.int .i64,.int .i64,.int .i64,.int .i64,.at 800000001,.int .i64,.bool,.bool])],[(800000000,tM,(.pr (.ow .fz) (.pr (.ow (.pr .fz .fz)) (.pr .fz (.ow .fz))))),(800000001,tW,(.pr .fz .fz))]⟩
def yiW:Shape:=⟨[(0,false,[.ptr 1000000000 0]),(2,false,[.ci .i64 0])],[(1000000000,[.int .i64,.int .i64,.int .i64,.at 800000000,.int .i64,.int .i64,.int .i64,.int .i64,.int .i64,.at 800000001,.int .i64,.bool,.bool])],[(800000000,tM,(.pr (.ow .fz) (.pr (.ow (.pr .fz .fz)) (.pr .fz (.ow .fz))))),(800000001,tW,(.pr .fz .fz))]⟩
def yiH:Shape:=⟨[],[(1000000000,[.int .i64,.int .i64,.int .i64,.at 800000000,.int .i64,.int .i64,.int .i64,.int .i64,.int .i64,.at 800000001,.int .i64,.bool,.bool])],[(800000000,tM,(.pr (.ow .fz) (.pr (.ow (.pr .fz .fz)) (.pr .fz (.ow .fz))))),(800000001,tW,(.pr .fz .fz))]⟩
def yn0:Shape:=⟨[],[],[]⟩
abbrev ytm (v0:Int) (v1:dA):(ydE).X:=((((),()),(v0,()),()),((v1.1,v1.2.1.1,v1.2.1.2,(),v1.2.2.2.1,v1.2.2.2.2.1,v1.2.2.2.2.2.1,v1.2.2.2.2.2.2.1,v1.2.2.2.2.2.2.2.1,(),v1.2.2.2.2.2.2.2.2.2.1,v1.2.2.2.2.2.2.2.2.2.2.1,v1.2.2.2.2.2.2.2.2.2.2.2,()),()),(v1.2.2.1,v1.2.2.2.2.2.2.2.2.1,()))
abbrev yUn (v0:dA):(yiW).X:=((((),()),((),()),()),((v0.1,v0.2.1.1,v0.2.1.2,(),v0.2.2.2.1,v0.2.2.2.2.1,v0.2.2.2.2.2.1,v0.2.2.2.2.2.2.1,v0.2.2.2.2.2.2.2.1,(),v0.2.2.2.2.2.2.2.2.2.1,v0.2.2.2.2.2.2.2.2.2.2.1,v0.2.2.2.2.2.2.2.2.2.2.2,()),()),(v0.2.2.1,v0.2.2.2.2.2.2.2.2.1,()))
abbrev yGS (v0:dA):(yiH).X:=((),((v0.1,v0.2.1.1,v0.2.1.2,(),v0.2.2.2.1,v0.2.2.2.2.1,v0.2.2.2.2.2.1,v0.2.2.2.2.2.2.1,v0.2.2.2.2.2.2.2.1,(),v0.2.2.2.2.2.2.2.2.2.1,v0.2.2.2.2.2.2.2.2.2.2.1,v0.2.2.2.2.2.2.2.2.2.2.2,()),()),(v0.2.2.1,v0.2.2.2.2.2.2.2.2.1,()))
def yt2 (v0 v1 v2 v3 v4 v5 v6 v7 v8 v9:Int) (v10 v11:Bool) (v12:List dM) (v13:List dW):Option ((ydE).X ⊕ ((yiH).X ⊕ (yn0).X)) :=bif(ltb v0 (v12.length:Int))then bif(inb v0 v12.length)then bif(!((((nth v12 v0 ([],[],false,[])).2).2).1))then let r3:=yrT (v1,(v2,v3),v12,v4,v5,v6,v7,v8,v13,v9,v10,v11);bif r3.1 then bif(inb v0 r3.2.2.2.1.length)then let r4:=ydT ((nth r3.2.2.2.1 v0 ([],[],false,[])).1,((nth r3.2.2.2.1 v0 ([],[],false,[])).2).1,(((nth r3.2.2.2.1 v0 ([],[],false,[])).2).2));bif(inb v0 r3.2.2.2.1.length)then some (.inl ((((),()),((i64.wrap (v0+1)),()),()),((r3.2.1,r3.2.2.1.1,r3.2.2.1.2,(),r3.2.2.2.2.1,r3.2.2.2.2.2.1,r3.2.2.2.2.2.2.1,r3.2.2.2.2.2.2.2.1,r3.2.2.2.2.2.2.2.2.1,(),r3.2.2.2.2.2.2.2.2.2.2.1,r3.2.2.2.2.2.2.2.2.2.2.2.1,r3.2.2.2.2.2.2.2.2.2.2.2.2,()),()),((r3.2.2.2.1.set (v0).toNat r4),r3.2.2.2.2.2.2.2.2.2.1,()))) else none else none else some (.inl ((((),()),((i64.wrap (v0+1)),()),()),((r3.2.1,r3.2.2.1.1,r3.2.2.1.2,(),r3.2.2.2.2.1,r3.2.2.2.2.2.1,r3.2.2.2.2.2.2.1,r3.2.2.2.2.2.2.2.1,r3.2.2.2.2.2.2.2.2.1,(),r3.2.2.2.2.2.2.2.2.2.2.1,r3.2.2.2.2.2.2.2.2.2.2.2.1,r3.2.2.2.2.2.2.2.2.2.2.2.2,()),()),(r3.2.2.2.1,r3.2.2.2.2.2.2.2.2.2.1,()))) else some (.inl ((((),()),((i64.wrap (v0+1)),()),()),((v1,v2,v3,(),v4,v5,v6,v7,v8,(),v9,v10,v11,()),()),(v12,v13,()))) else none else some (.inr (.inl ((),((v1,v2,v3,(),v4,v5,v6,v7,v8,(),v9,v10,v11,()),()),(v12,v13,()))))
def yeh (x:(ydE).X):=yt2 x.1.2.1.1 x.2.1.1.1 x.2.1.1.2.1 x.2.1.1.2.2.1 x.2.1.1.2.2.2.2.1 x.2.1.1.2.2.2.2.2.1 x.2.1.1.2.2.2.2.2.2.1 x.2.1.1.2.2.2.2.2.2.2.1 x.2.1.1.2.2.2.2.2.2.2.2.1 x.2.1.1.2.2.2.2.2.2.2.2.2.2.1 x.2.1.1.2.2.2.2.2.2.2.2.2.2.2.1 x.2.1.1.2.2.2.2.2.2.2.2.2.2.2.2.1 x.2.2.1 x.2.2.2.1
def yGq (x:(yiW).X):(ydE).X:=((((),()),(0,()),()),((x.2.1.1.1,x.2.1.1.2.1,x.2.1.1.2.2.1,(),x.2.1.1.2.2.2.2.1,x.2.1.1.2.2.2.2.2.1,x.2.1.1.2.2.2.2.2.2.1,x.2.1.1.2.2.2.2.2.2.2.1,x.2.1.1.2.2.2.2.2.2.2.2.1,(),x.2.1.1.2.2.2.2.2.2.2.2.2.2.1,x.2.1.1.2.2.2.2.2.2.2.2.2.2.2.1,x.2.1.1.2.2.2.2.2.2.2.2.2.2.2.2.1,()),()),(x.2.2.1,x.2.2.2.1,()))
def yH8:Code:=(zd7 yr4 64 12).getD .skip
theorem yXa:zd7 yr4 64 3=some (.block 0 (.loop yH8)):=by kernel_rfl
theorem yZ0 (x:(ydE).X):zhu ⟨yBy,39,yHQ⟩ 0 yH8 12 ydE yiH yn0 x=yeh x:=by kernel_rfl
def yGG (x:(yiW).X):Nat:=18446744073709551616
def yuV (x:(yiW).X):Option ((yiH).X ⊕ (yn0).X):=zF yeh (yGG x) (yGq x)
def yHx:Seg:=⟨yiW,yiH,yn0,yuV⟩
def yWB:Nat→Option Seg:=fun q=>bif Nat.beq q 3 then some yHx else yHQ q
theorem yTX:FrOk prog ⟨yBy,39,yWB⟩ yr4:=(yTW).loop (sg:=yHx) ydE yGq (by decide) yXa yeh yGG (by decide) (fun _=>rfl) (fun x r _ h=>h) yZ0
abbrev ysn:List Par:= [.pt tA (.pr .fz (.pr (.pr .fz .fz) (.pr (.ow (.pr (.ow .fz) (.pr (.ow (.pr .fz .fz)) (.pr .fz (.ow .fz))))) (.pr .fz (.pr .fz (.pr .fz (.pr .fz (.pr .fz (.pr (.ow (.pr .fz .fz)) (.pr .fz (.pr .fz .fz)))))))))))]
abbrev yCA:List OT:= []
def yw0 (a0:dA):Option (zaY yCA×zak ysn) :=zkt (yuV ((((),()),((),()),()),((a0.1,a0.2.1.1,a0.2.1.2,(),a0.2.2.2.1,a0.2.2.2.2.1,a0.2.2.2.2.2.1,a0.2.2.2.2.2.2.1,a0.2.2.2.2.2.2.2.1,(),a0.2.2.2.2.2.2.2.2.2.1,a0.2.2.2.2.2.2.2.2.2.2.1,a0.2.2.2.2.2.2.2.2.2.2.2,()),()),(a0.2.2.1,a0.2.2.2.2.2.2.2.2.1,()))) (fun y4 =>some ((),((y4.2.1.1.1,(y4.2.1.1.2.1,y4.2.1.1.2.2.1),y4.2.2.1,y4.2.1.1.2.2.2.2.1,y4.2.1.1.2.2.2.2.2.1,y4.2.1.1.2.2.2.2.2.2.1,y4.2.1.1.2.2.2.2.2.2.2.1,y4.2.1.1.2.2.2.2.2.2.2.2.1,y4.2.2.2.1,y4.2.1.1.2.2.2.2.2.2.2.2.2.2.1,y4.2.1.1.2.2.2.2.2.2.2.2.2.2.2.1,y4.2.1.1.2.2.2.2.2.2.2.2.2.2.2.2.1),()))) (fun y4 =>none)
theorem yZq:ConOk prog 208 ⟨ysn,yCA,fun x=>yw0 x.1⟩:=zkI (yTX) func208 ntmps208.symm fun x=>by kernel_rfl
def yen (a0:dA):dA:=yz a0
theorem y1J (a0:dA) (hk:zjx ysn (a0,())):yw0 a0=(fun n=>some ((),(n,()))) (yen a0):=by
 have hb:a0.2.2.1.length*80≤2^47:=hk.1.2.2.1.1
 have h1:yuV (yUn a0)=some (.inl (yGS (yz a0))) :=
  zkD (step:=yeh) a0.2.2.1.length (fun i s=>ytm i s) yM (fun _ s=>s.2.2.1.length=a0.2.2.1.length) (fun s=> .inl (yGS s)) (fun i s hi hs=>⟨by
   simp only[yeh,ytm,yt2,hs,zky (show(i:Int)<a0.2.2.1.length by omega),cond_true,wq ((i:Int)+1) (by omega) (by omega),Int.natCast_add,Int.natCast_one,Int.toNat_natCast,zkR hi,zkX,yZ2,yaT,ydT,yM,yjC]
   cases(nth s.2.2.1 i yc).2.2.1<;>cases(opA s).1<;>simp only[cond_true,cond_false,Bool.not_true,Bool.not_false,yaT,Int.toNat_natCast],(ymH s i).trans hs⟩) (fun s hs=>by simp only[yeh,ytm,yt2,hs,zk3 (Int.le_refl _),cond_false]) a0 rfl _ (by show _<18446744073709551616; omega)
 unfold yw0 yen;rw[h1]; rfl
def yoa:Con:=⟨ysn,yCA,fun x=>(fun n=>some ((),(n,()))) (yen x.1)⟩
theorem yzr:ConOk prog 208 yoa:=(yZq).mono (fun x r hk h=>(y1J x.1 hk).trans h)
def yr3:Code:=(f174.body).getD .skip
def yBx:Env:=zkw TT [(144,yj8),(206,ykF),(208,yoa)] []
theorem yTU:FrOk prog ⟨yBx,63,fun _=>none⟩ yr3:=zkA mixed yd ⟨ytr,ysy,yzr,trivial⟩
def yHP:Nat→Option Seg:=fun _=>none
def ycU:Shape:=⟨[(0,false,[.ptr 1000000000 0]),(2,false,[.int .i64])],[(1000000000,[.int .i64,.int .i64,.int .i64,.at 800000000,.int .i64,.int .i64,.int .i64,.int .i64,.int .i64,.at 800000001,.int .i64,.bool,.bool])],[(800000000,tM,(.pr (.ow .fz) (.pr (.ow (.pr .fz .fz)) (.pr .fz (.ow .fz))))),(800000001,tW,(.pr .fz .fz))]⟩
def yhD:Shape:=⟨[(0,false,[.ptr 1000000000 0]),(2,false,[.ci .i64 0])],[(1000000000,[.int .i64,.int .i64,.int .i64,.at 800000000,.int .i64,.int .i64,.int .i64,.int .i64,.int .i64,.at 800000001,.int .i64,.bool,.bool])],[(800000000,tM,(.pr (.ow .fz) (.pr (.ow (.pr .fz .fz)) (.pr .fz (.ow .fz))))),(800000001,tW,(.pr .fz .fz))]⟩
def yhq:Shape:=⟨[(0,false,[.ptr 1000000000 0])],[(1000000000,[.int .i64,.int .i64,.int .i64,.at 800000000,.int .i64,.int .i64,.int .i64,.int .i64,.int .i64,.at 800000001,.int .i64,.bool,.bool])],[(800000000,tM,(.pr (.ow .fz) (.pr (.ow (.pr .fz .fz)) (.pr .fz (.ow .fz))))),(800000001,tW,(.pr .fz .fz))]⟩
def ylD:Shape:=⟨[],[],[]⟩
abbrev yq7 (v0:Int) (v1:dA):(ycU).X:=((((),()),(v0,()),()),((v1.1,v1.2.1.1,v1.2.1.2,(),v1.2.2.2.1,v1.2.2.2.2.1,v1.2.2.2.2.2.1,v1.2.2.2.2.2.2.1,v1.2.2.2.2.2.2.2.1,(),v1.2.2.2.2.2.2.2.2.2.1,v1.2.2.2.2.2.2.2.2.2.2.1,v1.2.2.2.2.2.2.2.2.2.2.2,()),()),(v1.2.2.1,v1.2.2.2.2.2.2.2.2.1,()))
abbrev yQ9 (v0:dA):(yhD).X:=((((),()),((),()),()),((v0.1,v0.2.1.1,v0.2.1.2,(),v0.2.2.2.1,v0.2.2.2.2.1,v0.2.2.2.2.2.1,v0.2.2.2.2.2.2.1,v0.2.2.2.2.2.2.2.1,(),v0.2.2.2.2.2.2.2.2.2.1,v0.2.2.2.2.2.2.2.2.2.2.1,v0.2.2.2.2.2.2.2.2.2.2.2,()),()),(v0.2.2.1,v0.2.2.2.2.2.2.2.2.1,()))
abbrev yEa (v0:dA):(yhq).X:=((((),()),()),((v0.1,v0.2.1.1,v0.2.1.2,(),v0.2.2.2.1,v0.2.2.2.2.1,v0.2.2.2.2.2.1,v0.2.2.2.2.2.2.1,v0.2.2.2.2.2.2.2.1,(),v0.2.2.2.2.2.2.2.2.2.1,v0.2.2.2.2.2.2.2.2.2.2.1,v0.2.2.2.2.2.2.2.2.2.2.2,()),()),(v0.2.2.1,v0.2.2.2.2.2.2.2.2.1,()))
def yrL (v0 v1 v2 v3 v4 v5 v6 v7 v8 v9:Int) (v10 v11:Bool) (v12:List dM) (v13:List dW):Option ((ycU).X ⊕ ((yhq).X ⊕ (ylD).X)) :=bif(ltb v0 (v12.length:Int))then let r3:=yJ (v1,v8,v0,v2,v3,v7,v4,v5);bnd (yfI (v1,(v2,v3),v12,v4,v5,v6,v7,v8,v13,v9,v10,v11) v0 (v8.tmod 2) r3) fun r4 =>some (.inl ((((),()),((i64.wrap (v0+1)),()),()),((r4.2.1.1,r4.2.1.2.1.1,r4.2.1.2.1.2,(),r4.2.1.2.2.2.1,r4.2.1.2.2.2.2.1,r4.2.1.2.2.2.2.2.1,r4.2.1.2.2.2.2.2.2.1,r4.2.1.2.2.2.2.2.2.2.1,(),r4.2.1.2.2.2.2.2.2.2.2.2.1,r4.2.1.2.2.2.2.2.2.2.2.2.2.1,r4.2.1.2.2.2.2.2.2.2.2.2.2.2,()),()),(r4.2.1.2.2.1,r4.2.1.2.2.2.2.2.2.2.2.1,()))) else some (.inr (.inl ((((),()),()),((v1,v2,v3,(),v4,v5,v6,v7,v8,(),v9,v10,v11,()),()),(v12,v13,()))))
def ydo (x:(ycU).X):=yrL x.1.2.1.1 x.2.1.1.1 x.2.1.1.2.1 x.2.1.1.2.2.1 x.2.1.1.2.2.2.2.1 x.2.1.1.2.2.2.2.2.1 x.2.1.1.2.2.2.2.2.2.1 x.2.1.1.2.2.2.2.2.2.2.1 x.2.1.1.2.2.2.2.2.2.2.2.1 x.2.1.1.2.2.2.2.2.2.2.2.2.2.1 x.2.1.1.2.2.2.2.2.2.2.2.2.2.2.1 x.2.1.1.2.2.2.2.2.2.2.2.2.2.2.2.1 x.2.2.1 x.2.2.2.1
def yDS (x:(yhD).X):(ycU).X:=((((),()),(0,()),()),((x.2.1.1.1,x.2.1.1.2.1,x.2.1.1.2.2.1,(),x.2.1.1.2.2.2.2.1,x.2.1.1.2.2.2.2.2.1,x.2.1.1.2.2.2.2.2.2.1,x.2.1.1.2.2.2.2.2.2.2.1,x.2.1.1.2.2.2.2.2.2.2.2.1,(),x.2.1.1.2.2.2.2.2.2.2.2.2.2.1,x.2.1.1.2.2.2.2.2.2.2.2.2.2.2.1,x.2.1.1.2.2.2.2.2.2.2.2.2.2.2.2.1,()),()),(x.2.2.1,x.2.2.2.1,()))
def yFT:Code:=(zd7 yr3 64 52).getD .skip
theorem ySW:zd7 yr3 64 13=some (.block 0 (.loop yFT)):=by kernel_rfl
theorem yV1 (x:(ycU).X):zhu ⟨yBx,63,yHP⟩ 0 yFT 52 ycU yhq ylD x=ydo x:=by kernel_rfl
def yD5 (x:(yhD).X):Nat:=18446744073709551616
def ysQ (x:(yhD).X):Option ((yhq).X ⊕ (ylD).X):=zF ydo (yD5 x) (yDS x)
def yEr:Seg:=⟨yhD,yhq,ylD,ysQ⟩
def yWA:Nat→Option Seg:=fun q=>bif Nat.beq q 13 then some yEr else yHP q
theorem yTV:FrOk prog ⟨yBx,63,yWA⟩ yr3:=(yTU).loop (sg:=yEr) ycU yDS (by decide) ySW ydo yD5 (by decide) (fun _=>rfl) (fun x r _ h=>h) yV1
abbrev ysm:List Par:= [.pt tA (.pr .fz (.pr (.pr .fz .fz) (.pr (.ow (.pr (.ow .fz) (.pr (.ow (.pr .fz .fz)) (.pr .fz (.ow .fz))))) (.pr .fz (.pr .fz (.pr .fz (.pr .fz (.pr .fz (.pr (.ow (.pr .fz .fz)) (.pr .fz (.pr .fz .fz)))))))))))]
abbrev yCz:List OT:= []
def ywZ (a0:dA):Option (zaY yCz×zak ysm) :=zkt (ysQ ((((),()),((),()),()),((a0.1,a0.2.1.1,a0.2.1.2,(),a0.2.2.2.1,a0.2.2.2.2.1,a0.2.2.2.2.2.1,a0.2.2.2.2.2.2.1,(i64.wrap (a0.2.2.2.2.2.2.2.1+1)),(),a0.2.2.2.2.2.2.2.2.2.1,a0.2.2.2.2.2.2.2.2.2.2.1,a0.2.2.2.2.2.2.2.2.2.2.2,()),()),(a0.2.2.1,a0.2.2.2.2.2.2.2.2.1,()))) (fun y4 =>let r6:=yen (y4.2.1.1.1,(y4.2.1.1.2.1,y4.2.1.1.2.2.1),y4.2.2.1,y4.2.1.1.2.2.2.2.1,y4.2.1.1.2.2.2.2.2.1,y4.2.1.1.2.2.2.2.2.2.1,y4.2.1.1.2.2.2.2.2.2.2.1,y4.2.1.1.2.2.2.2.2.2.2.2.1,y4.2.2.2.1,y4.2.1.1.2.2.2.2.2.2.2.2.2.2.1,y4.2.1.1.2.2.2.2.2.2.2.2.2.2.2.1,y4.2.1.1.2.2.2.2.2.2.2.2.2.2.2.2.1);some ((),(r6,()))) (fun y4 =>none)
theorem yZp:ConOk prog 174 ⟨ysm,yCz,fun x=>ywZ x.1⟩:=zkI (yTV) func174 ntmps174.symm fun x=>by kernel_rfl
def yaQ (a0:dA):dA:=yao a0
theorem ySm (a:dA) (i:Nat):(yaS a i).2.2.1.length=a.2.2.1.length:=yqk _ _ _ _
theorem y1I (a0:dA) (hk:zjx ysm (a0,())):ywZ a0=(fun n=>some ((),(n,()))) (yaQ a0):=by
 have hb:a0.2.2.1.length*80≤2^47:=hk.1.2.2.1.1
 have h1:ysQ (yQ9 (yfR a0))=some (.inl (yEa ((List.range a0.2.2.1.length).foldl yaS (yfR a0)))) :=
  zkD (step:=ydo) a0.2.2.1.length (fun i s=>yq7 i s) yaS (fun _ s=>s.2.2.1.length=a0.2.2.1.length) (fun s=> .inl (yEa s)) (fun i s hi hs=>⟨by
   simp only[ydo,yq7,yrL,hs,zky (show(i:Int)<a0.2.2.1.length by omega),cond_true,wq ((i:Int)+1) (by omega) (by omega),Int.natCast_add,Int.natCast_one,Int.toNat_natCast,zkX];rw[ymB s i (s.2.2.2.2.2.2.2.1.tmod 2) (yJ (s.1,s.2.2.2.2.2.2.2.1,(i:Int),s.2.1.1,s.2.1.2,s.2.2.2.2.2.2.1,s.2.2.2.1,s.2.2.2.2.1)) (zkR (by rw[hs]; exact hi))]
   rfl,(ySm s i).trans hs⟩) (fun s hs=>by simp only[ydo,yq7,yrL,hs,zk3 (Int.le_refl _),cond_false]) (yfR a0) rfl _ (by show _<18446744073709551616; omega)
 unfold ywZ yaQ yao;exact(congrArg (fun z=>zkt z _ _) h1).trans rfl
def yn9:Con:=⟨ysm,yCz,fun x=>(fun n=>some ((),(n,()))) (yaQ x.1)⟩
theorem yzq:ConOk prog 174 yn9:=(yZp).mono (fun x r hk h=>(y1I x.1 hk).trans h)
def y0f:Code:=(f108.body).getD .skip
def y0I:Env:=zkw TT [(143,ylH),(174,yn9)] []
theorem yQC:FrOk prog ⟨y0I,62,fun _=>none⟩ y0f:=zkA mixed yd ⟨ywD,yzq,trivial⟩
abbrev ykl:List Par:= [.pt tA (.pr .fz (.pr (.pr .fz .fz) (.pr (.ow (.pr (.ow .fz) (.pr (.ow (.pr .fz .fz)) (.pr .fz (.ow .fz))))) (.pr .fz (.pr .fz (.pr .fz (.pr .fz (.pr .fz (.pr (.ow (.pr .fz .fz)) (.pr .fz (.pr .fz .fz))))))))))),.rd tI]
abbrev ypY:List OT:= []
def ytH (a0:dA) (a1:Int):Option (zaY ypY×zak ykl) :=bif(inb a1 a0.2.2.1.length)then let r1:=yg1 ((nth a0.2.2.1 a1 ([],[],false,[])).1,((nth a0.2.2.1 a1 ([],[],false,[])).2).1,(((nth a0.2.2.1 a1 ([],[],false,[])).2).2));bif(inb a1 a0.2.2.1.length)then bif(!(a0.2.2.2.1==(-1)))then bif(a0.2.2.2.1==a1)then bif(!a0.2.2.2.2.2.2.2.2.2.2.1)then bif(!a0.2.2.2.2.2.2.2.2.2.2.2)then bif(ltb a0.2.2.2.2.2.2.2.1 60000)then let r2:=yaQ (a0.1,a0.2.1,(a0.2.2.1.set (a1).toNat r1),a1,0,a0.2.2.2.2.2);some ((),(r2,())) else some ((),((a0.1,a0.2.1,(a0.2.2.1.set (a1).toNat r1),a1,0,a0.2.2.2.2.2),())) else some ((),((a0.1,a0.2.1,(a0.2.2.1.set (a1).toNat r1),a1,0,a0.2.2.2.2.2),())) else some ((),((a0.1,a0.2.1,(a0.2.2.1.set (a1).toNat r1),a1,0,a0.2.2.2.2.2),())) else bif(!a0.2.2.2.2.2.2.2.2.2.2.1)then some ((),((a0.1,a0.2.1,(a0.2.2.1.set (a1).toNat r1),a0.2.2.2.1,a0.2.2.2.2.1,a0.2.2.2.2.2.1,a0.2.2.2.2.2.2.1,a0.2.2.2.2.2.2.2.1,a0.2.2.2.2.2.2.2.2.1,a0.2.2.2.2.2.2.2.2.2.1,a0.2.2.2.2.2.2.2.2.2.2.1,true),())) else some ((),((a0.1,a0.2.1,(a0.2.2.1.set (a1).toNat r1),a0.2.2.2.1,a0.2.2.2.2.1,a0.2.2.2.2.2.1,a0.2.2.2.2.2.2.1,a0.2.2.2.2.2.2.2.1,a0.2.2.2.2.2.2.2.2.1,a0.2.2.2.2.2.2.2.2.2.1,a0.2.2.2.2.2.2.2.2.2.2.1,true),())) else bif(!a0.2.2.2.2.2.2.2.2.2.2.1)then bif(!a0.2.2.2.2.2.2.2.2.2.2.2)then bif(ltb a0.2.2.2.2.2.2.2.1 60000)then let r3:=yaQ (a0.1,a0.2.1,(a0.2.2.1.set (a1).toNat r1),a1,0,a0.2.2.2.2.2);some ((),(r3,())) else some ((),((a0.1,a0.2.1,(a0.2.2.1.set (a1).toNat r1),a1,0,a0.2.2.2.2.2),())) else some ((),((a0.1,a0.2.1,(a0.2.2.1.set (a1).toNat r1),a1,0,a0.2.2.2.2.2),())) else some ((),((a0.1,a0.2.1,(a0.2.2.1.set (a1).toNat r1),a1,0,a0.2.2.2.2.2),())) else none else none
theorem yVk:ConOk prog 108 ⟨ykl,ypY,fun x=>ytH x.1 x.2.1⟩:=zkI (yQC) func108 ntmps108.symm fun x=>by kernel_rfl
def yqe (a0:dA) (a1:Int):dA:=yic a0 a1
def yzu (a0:dA) (a1:Int):Bool:=inb a1 a0.2.2.1.length
theorem yYB (a0:dA) (a1:Int) (hk:zjx ykl (a0,a1,())) (hq:yzu a0 a1=true):ytH a0 a1=(fun n=>some ((),(n,()))) (yqe a0 a1):=by
 have hq:inb a1 a0.2.2.1.length=true:=hq;unfold ytH yqe yic yby ywb yub ye;simp only[hq,zkX,yg1,yD,yaQ];cases(a0.2.2.2.1== -1)<;>cases(a0.2.2.2.1==a1)<;>cases a0.2.2.2.2.2.2.2.2.2.2.1<;>cases a0.2.2.2.2.2.2.2.2.2.2.2<;>cases ltb a0.2.2.2.2.2.2.2.1 60000<;>rfl
def ykZ (a0:dA) (a1:Int):Option (zaY ypY×zak ykl):=bif yzu a0 a1 then(fun n=>some ((),(n,()))) (yqe a0 a1)else none
theorem yZJ (a0:dA) (a1:Int) (h:yzu a0 a1=true):ykZ a0 a1=(fun n=>some ((),(n,()))) (yqe a0 a1):=by unfold ykZ; rw[h]; rfl
def yF7:Con:=⟨ykl,ypY,fun x=>ykZ x.1 x.2.1⟩
theorem yZE:ConOk prog 108 yF7:=(yVk).mono (fun x r hk h=>zkY h (fun hq=>yYB x.1 x.2.1 hk hq))
def ynr:Code:=(f112.body).getD .skip
def yuF:Env:=zkw TT [(76,ycd),(82,yq),(160,yeV),(161,yzf)] []
theorem yN3:FrOk prog ⟨yuF,68,fun _=>none⟩ ynr:=zkA mixed yd ⟨ye4,yy,yif,yLU,trivial⟩
def yC7:Nat→Option Seg:=fun _=>none
def ya5:Shape:=⟨[(1,false,[.int .i64]),(4,false,[.ptr 64 0]),(5,false,[.ptr 4224 0]),(6,false,[.int .i64])],[(64,[.nil,.nil,.bool,.nil]),(4224,[.at 800000000,.at 800000001,.bool,.at 800000002])],[(800000000,tL,.fz),(800000001,tW,(.pr .fz .fz)),(800000002,tI,.fz)]⟩
def yeH:Shape:=⟨[(1,false,[.int .i64]),(4,false,[.ptr 64 0]),(5,false,[.ptr 4224 0]),(6,false,[.int .i64])],[(64,[.nil,.nil,.bool,.nil]),(4224,[.at 800000000,.at 800000001,.bool,.at 800000002])],[(800000000,tL,.fz),(800000001,tW,(.pr .fz .fz)),(800000002,tI,.fz)]⟩
def yey:Shape:=⟨[(1,false,[.int .i64]),(4,false,[.ptr 64 0]),(5,false,[.ptr 4224 0]),(6,false,[.int .i64])],[(64,[.nil,.nil,.bool,.nil]),(4224,[.at 800000000,.at 800000001,.bool,.at 800000002])],[(800000000,tL,.fz),(800000001,tW,(.pr .fz .fz)),(800000002,tI,.fz)]⟩
def yh3:Shape:=⟨[],[],[]⟩
abbrev ylS (v0 v1:Int) (v2 v3:dM):(ya5).X:=(((v0,()),((),()),((),()),(v1,()),()),(((),(),v2.2.2.1,(),()),((),(),v3.2.2.1,(),()),()),(v3.1,v3.2.1,v3.2.2.2,()))
abbrev yLo (v0 v1:Int) (v2 v3:dM):(yeH).X:=(((v0,()),((),()),((),()),(v1,()),()),(((),(),v2.2.2.1,(),()),((),(),v3.2.2.1,(),()),()),(v3.1,v3.2.1,v3.2.2.2,()))
abbrev yLf (v0 v1:Int) (v2 v3:dM):(yey).X:=(((v0,()),((),()),((),()),(v1,()),()),(((),(),v2.2.2.1,(),()),((),(),v3.2.2.1,(),()),()),(v3.1,v3.2.1,v3.2.2.2,()))
def yl9 (v0 v1:Int) (v2 v3:Bool) (v4:List (List Int)) (v5:List dW) (v6:List Int):Option ((ya5).X ⊕ ((yey).X ⊕ (yh3).X)) :=bif(ltb 0 v1)then bif(inb (i64.wrap (v1-1)) v6.length)then bif(ltb v0 (nth v6 (i64.wrap (v1-1)) 0))then bif(inb (i64.wrap (v1-1)) v6.length)then bif(inb v1 v6.length)then some (.inl (((v0,()),((),()),((),()),((i64.wrap (v1-1)),()),()),(((),(),v2,(),()),((),(),v3,(),()),()),(v4,v5,(v6.set (v1).toNat (nth v6 (i64.wrap (v1-1)) 0)),()))) else none else none else some (.inr (.inl (((v0,()),((),()),((),()),(v1,()),()),(((),(),v2,(),()),((),(),v3,(),()),()),(v4,v5,v6,())))) else none else some (.inr (.inl (((v0,()),((),()),((),()),(v1,()),()),(((),(),v2,(),()),((),(),v3,(),()),()),(v4,v5,v6,()))))
def ybk (x:(ya5).X):=yl9 x.1.1.1 x.1.2.2.2.1.1 x.2.1.1.2.2.1 x.2.1.2.1.2.2.1 x.2.2.1 x.2.2.2.1 x.2.2.2.2.1
def yv9 (x:(yeH).X):(ya5).X:=(((x.1.1.1,()),((),()),((),()),(x.1.2.2.2.1.1,()),()),(((),(),x.2.1.1.2.2.1,(),()),((),(),x.2.1.2.1.2.2.1,(),()),()),(x.2.2.1,x.2.2.2.1,x.2.2.2.2.1,()))
def yxq:Code:=(zd7 ynr 64 504).getD .skip
theorem yMb:zd7 ynr 64 126=some (.block 0 (.loop yxq)):=by kernel_rfl
theorem yMZ (x:(ya5).X):zhu ⟨yuF,68,yC7⟩ 0 yxq 504 ya5 yey yh3 x=ybk x:=by kernel_rfl
def ywk (x:(yeH).X):Nat:=18446744073709551616
def ymP (x:(yeH).X):Option ((yey).X ⊕ (yh3).X):=zF ybk (ywk x) (yv9 x)
def yxa:Seg:=⟨yeH,yey,yh3,ymP⟩
def yPG:Nat→Option Seg:=fun q=>bif Nat.beq q 126 then some yxa else yC7 q
theorem yN4:FrOk prog ⟨yuF,68,yPG⟩ ynr:=(yN3).loop (sg:=yxa) ya5 yv9 (by decide) yMb ybk ywk (by decide) (fun _=>rfl) (fun x r _ h=>h) yMZ
abbrev ynK:List Par:= [.rd tM,.rd tI]
abbrev yvz:List OT:= [⟨false,tM,(.pr (.ow .fz) (.pr (.ow (.pr .fz .fz)) (.pr .fz (.ow .fz))))⟩]
def yrv (a0:dM) (a1:Int):Option (zaY yvz×zak ynK) :=let r1:=yD a0;let r2:=yab a0;bif(!(!r2))then let r3:=ya a1 0 (i64.wrap ((a0.1.length:Int)-1));bif(!(!r3))then let r4:=yhQ a0.2.2.2 a1;bif r4 then some ((r1,()),()) else bif(zkl r1.2.2.2.length ([a1]:List Int).length 8)then zkt (ymP (((a1,()),((),()),((),()),((i64.wrap (((r1.2.2.2++([a1]:List Int)).length:Int)-1)),()),()),(((),(),false,(),()),((),(),r1.2.2.1,(),()),()),(r1.1,r1.2.1,(r1.2.2.2++([a1]:List Int)),()))) (fun y4 =>bif(inb y4.1.2.2.2.1.1 y4.2.2.2.2.1.length)then some (((y4.2.2.1,y4.2.2.2.1,y4.2.1.2.1.2.2.1,(y4.2.2.2.2.1.set (y4.1.2.2.2.1.1).toNat y4.1.1.1)),()),()) else none) (fun y4 =>none) else none else some ((r1,()),()) else some ((r1,()),())
theorem yRH:ConOk prog 112 ⟨ynK,yvz,fun x=>yrv x.1 x.2.1⟩:=zkI (yN4) func112 ntmps112.symm fun x=>by kernel_rfl
def yfT (a0:dM) (a1:Int):dM:=spoil a0 a1
theorem yZ3 (n:Int) (m:dM) (p:List Int) (hp: ∀x∈p,x<n): ∀(j:Nat) (q1 q2:List Int) (x:Int) (fuel:Nat),q1.length=j→j<fuel→(∀y∈q1,n<y)→p.length+q1.length≤1000 →
  ∃(x':Int) (q':List Int),q1++q2=q'∧zF ybk fuel (ylS n ((p.length+q1.length:Nat):Int) yc (m.1,m.2.1,m.2.2.1,(p++q1)++x::q2))=some (.inl (yLf n (p.length:Nat) yc (m.1,m.2.1,m.2.2.1,p++x'::q')))
 | 0,q1,q2,x,fuel+1,hj,hf,hq,hb=>by
  have:q1= []:=List.length_eq_zero_iff.1 hj;subst this;refine⟨x,q2,rfl,?_⟩;simp only[zF,ybk,ylS,yl9,List.length_nil,Nat.add_zero,List.append_nil];rcases List.eq_nil_or_concat p with rfl | ⟨P,y,rfl⟩
  ·rfl
  ·have hy:=hp y (by simp)
   simp only[List.concat_eq_append,List.length_append,List.length_cons,List.length_nil,List.append_assoc,List.cons_append,List.nil_append]at hb ⊢
   rw[zky (show(0:Int)<((P.length+(0+1):Nat):Int)by omega),wq (((P.length+(0+1):Nat):Int)-1) (by omega) (by omega),show((P.length+(0+1):Nat):Int)-1=(P.length:Nat)by omega,
    zkR (by simp),zkS,y6J,zk3 (show y≤n by omega)]
   rfl
 | j+1,q1,q2,x,fuel+1,hj,hf,hq,hb=>by
  rcases List.eq_nil_or_concat q1 with rfl | ⟨Q,y,rfl⟩
  ·cases hj
  ·rw[List.concat_eq_append]at hj hq hb ⊢
   have hQ:Q.length=j:=by simpa using hj
   have hy:=hq y (by simp);obtain⟨x',q',e1,e2⟩:=yZ3 n m p hp j Q (y::q2) y fuel hQ (by omega) (fun z hz=>hq z (by simp[hz])) (by simp at hb; omega);refine⟨x',q',by rw[← e1]; simp,?_⟩;rw[← e2];have ea:((p++(Q++ [y]))++x::q2)=(p++Q)++y::x::q2:=by simp
   have el:p.length+(Q++ [y]).length=(p++Q).length+1:=by simp; omega
   have el2:p.length+Q.length=(p++Q).length:=by simp
   have hb2:(p++Q).length≤1000:=by simp at hb ⊢; omega
   rw[ea,el,el2];generalize p++Q=A at hb2;rw[zF];simp only[ybk,ylS,yl9]
   have es:(A++y::x::q2).set (A.length+1) y=A++y::y::q2:=by
    have:=y6N (A++ [y]) x y q2;simp at this ⊢
   rw[zky (show(0:Int)<((A.length+1:Nat):Int)by omega),wq (((A.length+1:Nat):Int)-1) (by omega) (by omega),show((A.length+1:Nat):Int)-1=(A.length:Nat)by omega,zkR (show A.length<(A++y::x::q2).length by simp),zkS,y6J,zky hy,
    zkR (show A.length+1<(A++y::x::q2).length by simp),Int.toNat_natCast,es]
   rfl
theorem yUS (a0:dM) (a1:Int) (hk:zjx ynK (a0,a1,())):yrv a0 a1=(fun n=>some ((n,()),())) (yfT a0 a1):=by
 unfold yrv yfT spoil;simp only[yD,yab,ybm,yhQ];cases hm:yu a0
 ·rfl
 obtain⟨h1,h2,h3,h4,h5,h6⟩:=yay hm;rw[yoI]at h3;have hlen:=yPp h3.2 (lo:=0) (n:=a0.1.length) h3.1 (by omega);rw[wq ((a0.1.length:Int)-1) (by omega) (by omega)]
 have hi:(leb 0 a1&&leb a1 ((a0.1.length:Int)-1))=inb a1 a0.1.length:=by
  rw[Bool.eq_iff_iff,Bool.and_eq_true,zj7,zj7,zj6]; omega
 rw[hi];cases hin:inb a1 a0.1.length
 ·rfl
 cases hh:a0.2.2.2.any (· ==a1)
 ·have hn:a1∉a0.2.2.2:=fun h=>by
   have:=List.any_eq_false.1 hh a1 h;simp at this
  have hsp:=y54 h3.2 hn;have hp: ∀x∈a0.2.2.2.filter (fun x=>ltb x a1),x<a1:=fun x hx=>zka.1 (List.mem_filter.1 hx).2
  have hq: ∀x∈a0.2.2.2.filter (fun x=>ltb a1 x),a1<x:=fun x hx=>zka.1 (List.mem_filter.1 hx).2
  unfold yX6;generalize a0.2.2.2.filter (fun x=>ltb x a1)=P at hsp hp;generalize a0.2.2.2.filter (fun x=>ltb a1 x)=Q at hsp hq;have hPQ:P.length+Q.length=a0.2.2.2.length:=by rw[hsp,List.length_append]
  obtain⟨x',q',e1,e2⟩:=yZ3 a1 a0 P hp Q.length Q [] a1 18446744073709551616 rfl (by omega) hq (by omega);rw[List.append_nil]at e1;subst e1;simp only[cond_true,cond_false,Bool.not_true,Bool.not_false,Bool.and_self]
  rw[zkF.2 (show(a0.2.2.2.length+ [a1].length)*8≤140737488355328 by simp only[List.length_cons,List.length_nil]; omega),wr (show -9223372036854775808≤((a0.2.2.2++ [a1]).length:Int)-1 by omega) (by simp only[List.length_append,List.length_cons,List.length_nil]; omega),
   show((a0.2.2.2++ [a1]).length:Int)-1=((P.length+Q.length:Nat):Int)by simp only[List.length_append,List.length_cons,List.length_nil]; omega,hsp,cond_true]
  refine(congrArg (fun z=>zkt z _ _) (show ymP (yLo a1 ((P.length+Q.length:Nat):Int) yc (a0.1,a0.2.1,a0.2.2.1,(P++Q)++ [a1]))=_ from e2)).trans ?_;simp only[zkN];show(bif inb (P.length:Int) (P++x'::Q).length then some (((a0.1,a0.2.1,a0.2.2.1,(P++x'::Q).set (P.length:Int).toNat a1),()),())else none)=_;rw[zkR (by simp),Int.toNat_natCast,y6N]; rfl
 ·rfl
def yqV:Con:=⟨ynK,yvz,fun x=>(fun n=>some ((n,()),())) (yfT x.1 x.2.1)⟩
theorem yG4:ConOk prog 112 yqV:=(yRH).mono (fun x r hk h=>(yUS x.1 x.2.1 hk).trans h)
def y3N:Code:=(f216.body).getD .skip
def y4l:Env:=zkw TT [(78,ykE),(82,yq),(200,yhK)] []
theorem yTQ:FrOk prog ⟨y4l,48,fun _=>none⟩ y3N:=zkA mixed yd ⟨ysx,yy,yoh,trivial⟩
abbrev yBV:List Par:= [.rd tA,.rd tI,.rd tL]
abbrev yCx:List OT:= [⟨false,tI,.fz⟩]
def yJh (a0:dA) (a1:Int) (a2:List Int):Option (zaY yCx×zak yBV) :=let r1:=yaN a0;bif(!(!r1))then bif(!((a2.length:Int) !=(i64.wrap (a0.2.1.1-1))))then let r2:=yX a2;bif(!r2)then some ((1,()),()) else bif a0.2.2.2.2.2.2.2.2.2.2.1 then some ((6,()),()) else let r3:=ya a1 0 (i64.wrap (a0.2.1.2-1));bif(!r3)then some ((2,()),()) else bif a0.2.2.2.2.2.2.2.2.2.2.2 then some ((5,()),()) else bif(!(leb 60000 a0.2.2.2.2.2.1))then bif(leb 59990 a0.2.2.2.2.2.2.2.1)then some ((7,()),()) else some ((0,()),()) else some ((7,()),()) else some ((1,()),()) else some ((1,()),())
theorem yZm:ConOk prog 216 ⟨yBV,yCx,fun x=>yJh x.1 x.2.1 x.2.2.1⟩:=zkI (yTQ) func216 ntmps216.symm fun x=>by kernel_rfl
def yN (a0:dA) (a1:Int) (a2:List Int):Int :=let r1:=yaN a0;bif(!(!r1))then bif(!((a2.length:Int) !=(i64.wrap (a0.2.1.1-1))))then let r2:=yX a2;bif(!r2)then 1 else bif a0.2.2.2.2.2.2.2.2.2.2.1 then 6 else let r3:=ya a1 0 (i64.wrap (a0.2.1.2-1));bif(!r3)then 2 else bif a0.2.2.2.2.2.2.2.2.2.2.2 then 5 else bif(!(leb 60000 a0.2.2.2.2.2.1))then bif(leb 59990 a0.2.2.2.2.2.2.2.1)then 7 else 0 else 7 else 1 else 1
def yIt:Con:=⟨yBV,yCx,fun x=>(fun n=>some ((n,()),())) (yN x.1 x.2.1 x.2.2.1)⟩
theorem y1G (a0:dA) (a1:Int) (a2:List Int):yJh a0 a1 a2=(fun n=>some ((n,()),())) (yN a0 a1 a2):=zkV (p:=fun(n:Int)=>((n,()),())) (zkG (p:=fun(n:Int)=>((n,()),())) (zkG (p:=fun(n:Int)=>((n,()),())) (zkG (p:=fun(n:Int)=>((n,()),())) rfl (zkG (p:=fun(n:Int)=>((n,()),())) rfl (zkG (p:=fun(n:Int)=>((n,()),())) rfl (zkG (p:=fun(n:Int)=>((n,()),())) rfl (zkG (p:=fun(n:Int)=>((n,()),())) (zkG (p:=fun(n:Int)=>((n,()),())) rfl rfl) rfl))))) rfl) rfl)
theorem y2z:ConOk prog 216 yIt:=(yZm).mono (fun x r _ h=>(y1G x.1 x.2.1 x.2.2.1).trans h)
def yIw (l:List dW) (k:Nat):List dW:=l.take k++l.drop (k+1)
def yah (a:dA) (s:Int):Int×dA :=bif ltb (yI a.2.2.2.2.2.2.2.2.1 s) 0 then(0,a)else bif yN a s (nth a.2.2.2.2.2.2.2.2.1 (yI a.2.2.2.2.2.2.2.2.1 s) (0,[])).2 !=0 then(yN a s (nth a.2.2.2.2.2.2.2.2.1 (yI a.2.2.2.2.2.2.2.2.1 s) (0,[])).2,a)else bif(yad a s (nth a.2.2.2.2.2.2.2.2.1 (yI a.2.2.2.2.2.2.2.2.1 s) (0,[])).2).1==0 then (0,yHj (yad a s (nth a.2.2.2.2.2.2.2.2.1 (yI a.2.2.2.2.2.2.2.2.1 s) (0,[])).2).2 (yIw a.2.2.2.2.2.2.2.2.1 (yI a.2.2.2.2.2.2.2.2.1 s).toNat)) else yad a s (nth a.2.2.2.2.2.2.2.2.1 (yI a.2.2.2.2.2.2.2.2.1 s) (0,[])).2
theorem yNp {a:dA} {s:Int} {d:List Int} (h:yN a s d=0):yE a=true∧(d.length:Int)=a.2.1.1-1∧d.all isW=true∧ye a=false∧ycH a.2.1 s=true∧a.2.2.2.2.2.2.2.2.2.2.2=false∧a.2.2.2.2.2.1<60000∧a.2.2.2.2.2.2.2.1<59990:=by
 unfold yN at h;simp only[yaN,ysz,ybm]at h;cases ha:yE a
 ·rw[ha]at h; exact absurd (show(1:Int)=0 from h) (by decide)
 have hg:=yk.1 (yjf ha);rw[ha,wq (a.2.1.1-1) (by omega) (by omega),wq (a.2.1.2-1) (by omega) (by omega)]at h;cases hl:((d.length:Int) !=a.2.1.1-1)
 ·cases hw:d.all isW
  ·rw[hl,hw]at h; exact absurd (show(1:Int)=0 from h) (by decide)
  cases hd:a.2.2.2.2.2.2.2.2.2.2.1
  ·cases hs:(leb 0 s&&leb s (a.2.1.2-1))
   ·rw[hl,hw,hd,hs]at h; exact absurd (show(2:Int)=0 from h) (by decide)
   cases hb:a.2.2.2.2.2.2.2.2.2.2.2
   ·cases h6:leb 60000 a.2.2.2.2.2.1
    ·cases h7:leb 59990 a.2.2.2.2.2.2.2.1
     ·have e6: ¬(60000≤a.2.2.2.2.2.1):=fun g=>by rw[zk2 g]at h6; cases h6
      have e7: ¬(59990≤a.2.2.2.2.2.2.2.1):=fun g=>by rw[zk2 g]at h7; cases h7
      exact⟨rfl,bne_eq_false_iff_eq.1 hl,rfl,hd,by unfold ycH; rw[yjf ha,hs]; rfl,rfl,by omega,by omega⟩
     ·rw[hl,hw,hd,hs,hb,h6,h7]at h; exact absurd (show(7:Int)=0 from h) (by decide)
    ·rw[hl,hw,hd,hs,hb,h6]at h; exact absurd (show(7:Int)=0 from h) (by decide)
   ·rw[hl,hw,hd,hs,hb]at h; exact absurd (show(5:Int)=0 from h) (by decide)
  ·rw[hl,hw,hd]at h; exact absurd (show(6:Int)=0 from h) (by decide)
 ·rw[hl]at h; exact absurd (show(1:Int)=0 from h) (by decide)
theorem y2O (a:dA):(yw a).2.2.2.2.2.2.2.2.1=a.2.2.2.2.2.2.2.2.1:=by
 unfold yw;cases leb 4 (i64.wrap (a.2.2.2.2.2.1-a.2.2.2.2.2.2.1))
 ·rfl
 ·exact ySe a
theorem y6t (a:dA):(yQ a).2.2.2.2.2.2.2.2.1=a.2.2.2.2.2.2.2.2.1:=rfl
theorem y6w (a:dA) (s:Int) (d:List Int):(yad a s d).2.2.2.2.2.2.2.2.2.1=a.2.2.2.2.2.2.2.2.1:=by
 unfold yad;have h2:=(yXg (yjL (yw a) ((yw a).2.2.2.2.2.1,s,d))).trans (y2O a);generalize yc0 (yw a) ((yw a).2.2.2.2.2.1,s,d)=R at h2 ⊢;have h3:=(yXg (yAm (yQ R) s d)).trans ((y6t R).trans h2);generalize yL (yQ R) s d=Q at h3 ⊢;cases ye (yw a)
 ·cases ye R
  ·exact h3
  ·exact h2
 ·exact y2O a
theorem y7k {l:List dW} {k:Int} (h0:0≤k) (h1:k<(l.length:Int)):(([]:List dW)++((l.drop (0:Int).toNat).take (k-0).toNat))++((l.drop (k+1).toNat).take ((l.length:Int)-(k+1)).toNat)=yIw l k.toNat:=by
 unfold yIw;rw[List.nil_append,show(0:Int).toNat=0 from rfl,List.drop_zero,Int.sub_zero,show(k+1).toNat=k.toNat+1 by omega,List.take_of_length_le (l:=l.drop (k.toNat+1)) (by rw[List.length_drop]; omega)]
def yoH (_:Nat) (a:dA):dA ⊕ (Int×dA):=bif(yah a (nth a.2.2.2.2.2.2.2.2.1 0 (0,[])).1).1 !=0 then .inr (yah a (nth a.2.2.2.2.2.2.2.2.1 0 (0,[])).1)else .inl (yah a (nth a.2.2.2.2.2.2.2.2.1 0 (0,[])).1).2
def y6S (a:dA):Int×dA:=goE yoH (fun b=>(0,b)) a.2.2.2.2.2.2.2.2.1.length 0 a
theorem y6V {e:dW} {l:List dW}:yI (e::l) e.1=0:=by
 unfold yI;rw[yEx,show(e.1==e.1)=true from beq_self_eq_true _]; rfl
theorem y6W {a:dA} (h:0<a.2.2.2.2.2.2.2.2.1.length) (h0:(yah a (nth a.2.2.2.2.2.2.2.2.1 0 (0,[])).1).1=0):(yah a (nth a.2.2.2.2.2.2.2.2.1 0 (0,[])).1).2.2.2.2.2.2.2.2.2.1=a.2.2.2.2.2.2.2.2.1.drop 1:=by
 unfold yah at h0 ⊢
 have hk:yI a.2.2.2.2.2.2.2.2.1 (nth a.2.2.2.2.2.2.2.2.1 0 (0,[])).1=0:=by
  cases hl:a.2.2.2.2.2.2.2.2.1 with
  | nil=>rw[hl]at h; exact absurd h (Nat.lt_irrefl 0)
  | cons e l=>exact y6V
 rw[hk]at h0 ⊢;generalize (nth a.2.2.2.2.2.2.2.2.1 0 (0,[])).2=D at h0 ⊢;generalize (nth a.2.2.2.2.2.2.2.2.1 0 (0,[])).1=s at h0 ⊢;cases hc:(yN a s D !=0)
 ·rw[hc]at h0
  cases hr:((yad a s D).1==0)
  ·rw[hr]at h0
   exact absurd (show(yad a s D).1=0 from h0) (beq_eq_false_iff_ne.1 hr)
  ·rfl
 ·rw[hc]at h0
  exact absurd (show yN a s D=0 from h0) (bne_iff_ne.1 hc)
inductive Turned (a:dA):dA→Prop where
 | same:Turned a a
 | put (b x:Int):yn2 a.2.1 b=true→isW x=true→Turned a (ypf a b x).2
 | flush (s:Int):Turned a (yah a s).2
 | all:Turned a (y6S a).2
 | fail (m:Int):a.2.2.2.1= -1→inb m a.2.2.1.length=true→Turned a (yic a m)
 | spare:inb a.2.2.2.1 a.2.2.1.length=true→(nth a.2.2.1 a.2.2.2.1 yc).2.2.1=true→Turned a (yao (yd0 a))
 | step:inb a.2.2.2.1 a.2.2.1.length=true→(nth a.2.2.1 a.2.2.2.1 yc).2.2.1=false→a.2.2.2.2.1<a.2.1.2→Turned a (yld a).2
 | check:Turned a (yZ a)
 | spoil (m s:Int):a.2.2.2.1= -1→inb m a.2.2.1.length=true→0≤s→s<a.2.1.2→Turned a (yjC a m (spoil (nth a.2.2.1 m yc) (ycA s)))
def y41 (g:dG) (e:dW):Prop:=(0≤e.1∧e.1≤g.2-1)∧(e.2.length:Int)=g.1-1∧e.2.all isW=true
theorem yt8 {g:dG} {l:List dW}:yaC g l=true↔(∀e∈l,y41 g e)∧l.Pairwise (fun x y=>x.1<y.1):=by
 have bad: ∀i,yib g l i=false↔y41 g (nth l i (0,[]))∧(0<i→(nth l ((i-1:Nat):Int) (0,[])).1<(nth l i (0,[])).1):=by
  intro i;unfold yib y41;simp only[Bool.or_eq_false_iff,Bool.not_eq_false',bne_eq_false_iff_eq,Bool.and_eq_true,Bool.and_eq_false_iff,decide_eq_false_iff_not,zj7];constructor
  ·rintro⟨h1,h2,h3,h4⟩
   refine⟨⟨h1,h2,h3⟩,fun h0=> ?_⟩;rcases h4 with h4 | h4
   ·exact absurd h0 h4
   ·have:=mt zk2 (by rw[h4]; simp: ¬leb (nth l i (0,[])).1 (nth l ((i-1:Nat):Int) (0,[])).1=true)
    omega
  ·rintro⟨⟨h1,h2,h3⟩,h4⟩
   refine⟨h1,h2,h3,?_⟩;by_cases h0:0<i
   ·exact .inr (zk1 (by have:=h4 h0; omega))
   ·exact .inl h0
 unfold yaC;simp only[Bool.not_eq_true',List.any_eq_false,List.mem_range,Bool.not_eq_true,bad];constructor
 ·intro h
  refine⟨fun e he=> ?_,?_⟩
  ·obtain⟨i,hi,rfl⟩:=List.getElem_of_mem he
   have:=(h i hi).1;rwa[zkS,zkJ hi]at this
  ·rw[List.pairwise_iff_getElem]
   have step: ∀(d i:Nat) (hi:i<l.length) (hj:i+d+1<l.length),l[i].1<l[i+d+1].1:=by
    intro d
    induction d with
    | zero =>
     intro i hi hj;have:=(h (i+1) hj).2 (by omega);rwa[Nat.add_sub_cancel,zkS,zkS,zkJ hi,zkJ hj]at this
    | succ d ih =>
     intro i hi hj;have h1:=ih i hi (by omega);have:=(h (i+d+1+1) hj).2 (by omega);rw[Nat.add_sub_cancel,zkS,zkS,zkJ (show i+d+1<l.length by omega),zkJ (show i+d+1+1<l.length from hj)]at this;exact Int.lt_trans h1 this
   intro i j hi hj hij;have:=step (j-i-1) i hi (by omega);have e:i+(j-i-1)+1=j:=by omega
   simp only[e]at this;exact this
 ·rintro⟨h1,h2⟩ i hi
  rw[List.pairwise_iff_getElem]at h2;refine⟨by rw[zkS,zkJ hi]; exact h1 _ (List.getElem_mem hi),fun h0=> ?_⟩;rw[zkS,zkS,zkJ hi,zkJ (show i-1<l.length by omega)];exact h2 (i-1) i (by omega) hi (by omega)
theorem y2Q {g:dG} {l:List dW} (k:Nat) (h:yaC g l=true):yaC g (yIw l k)=true:=by
 rw[yt8]at h ⊢
 have hs:(yIw l k).Sublist l:=by
  unfold yIw;have:(l.take k++l.drop (k+1)).Sublist (l.take k++l.drop k):=List.Sublist.append_left (by rw[← List.drop_drop]; exact List.drop_sublist _ _) _;rwa[List.take_append_drop]at this
 exact⟨fun e he=>h.1 e (hs.subset he),h.2.sublist hs⟩
theorem y5X (e:dW): ∀(l acc:List dW),l.foldl (ycD e) (true,acc)=(true,acc++l.filter (fun x=>x.1 !=e.1))
 | [],acc=>by simp
 | x::t,acc=>by
  rw[List.foldl_cons];have:ycD e (true,acc) x=(true,acc++(bif x.1 !=e.1 then[x]else[])):=rfl;rw[this,y5X e t,List.filter_cons];cases x.1 !=e.1<;>simp
theorem y3a {e:dW} {l:List dW} (h:l.Pairwise (fun x y=>x.1<y.1)):yG8 l e=l.filter (fun x=>ltb x.1 e.1)++e::l.filter (fun x=>ltb e.1 x.1):=by
 have: ∀(l acc:List dW),l.Pairwise (fun x y=>x.1<y.1)→(bif(l.foldl (ycD e) (false,acc)).1 then(l.foldl (ycD e) (false,acc)).2 else(l.foldl (ycD e) (false,acc)).2++ [e])=acc++(l.filter (fun x=>ltb x.1 e.1)++e::l.filter (fun x=>ltb e.1 x.1)):=by
  intro l
  induction l with
  | nil=>intro acc _; simp
  | cons x t ih =>
   intro acc h;obtain⟨hx,ht⟩:=List.pairwise_cons.1 h;rw[List.foldl_cons];by_cases hle:e.1≤x.1
   ·have h1:ycD e (false,acc) x=(true,(acc++ [e])++(bif x.1 !=e.1 then[x]else[])):=by
     unfold ycD; rw[zk2 hle]; rfl
    have h2:t.filter (fun x=>x.1 !=e.1)=t:=List.filter_eq_self.2 (fun y hy=>bne_iff_ne.2 (by have:=hx y hy; omega));have h3:t.filter (fun x=>ltb x.1 e.1)= []:=List.filter_eq_nil_iff.2 (fun y hy=>by rw[zk3 (by have:=hx y hy; omega)]; simp);have h4:t.filter (fun x=>ltb e.1 x.1)=t:=List.filter_eq_self.2 (fun y hy=>zky (by have:=hx y hy; omega));rw[h1,y5X,h2,List.filter_cons,List.filter_cons,h3,h4,zk3 (show e.1≤x.1 by omega)];by_cases he:x.1=e.1
    ·rw[show(x.1 !=e.1)=false from bne_eq_false_iff_eq.2 he,zk3 (show x.1≤e.1 by omega)]; simp
    ·rw[show(x.1 !=e.1)=true from bne_iff_ne.2 he,zky (show e.1<x.1 by omega)]; simp
   ·have h1:ycD e (false,acc) x=(false,acc++ [x]):=by
     unfold ycD; rw[zk1 (show x.1<e.1 by omega),show(x.1 !=e.1)=true from bne_iff_ne.2 (by omega)]; rfl
    rw[h1,ih _ ht,List.filter_cons,List.filter_cons,zky (show x.1<e.1 by omega),zk3 (show x.1≤e.1 by omega)];simp
 have:=this l [] h;rw[List.nil_append]at this;exact this
theorem y2R {g:dG} {l:List dW} {e:dW} (h:yaC g l=true) (he:y41 g e):yaC g (yG8 l e)=true:=by
 rw[yt8]at h ⊢;rw[y3a h.2];refine⟨fun x hx=> ?_,?_⟩
 ·rcases List.mem_append.1 hx with h1 | h1
  ·exact h.1 x (List.mem_filter.1 h1).1
  ·rcases List.mem_cons.1 h1 with rfl | h1
   ·exact he
   ·exact h.1 x (List.mem_filter.1 h1).1
 ·rw[List.pairwise_append,List.pairwise_cons]
  refine⟨h.2.filter _,⟨fun y hy=>zka.1 (List.mem_filter.1 hy).2,h.2.filter _⟩,fun x hx y hy=> ?_⟩;have h1:=zka.1 (List.mem_filter.1 hx).2;rcases List.mem_cons.1 hy with rfl | hy
  ·exact h1
  ·exact Int.lt_trans h1 (zka.1 (List.mem_filter.1 hy).2)
theorem yoK {g:dG} {l:List dW} (h:yaC g l=true) (hg:yf g=true):l.length≤8:=by
 rw[yt8]at h;have hg:=yk.1 hg
 have:=yPp (l:=l.map (fun e=>e.1)) (lo:=0) (n:=g.2) (by rw[List.pairwise_map]; exact h.2) (fun x hx=>by
  obtain⟨e,he,rfl⟩:=List.mem_map.1 hx
  have:=(h.1 e he).1; omega) (by omega)
 rw[List.length_map]at this;omega
theorem y5K {a:dA} (r:dN) (h:yH a):yH (yc0 a r) :=yAW (ylK (P:=yH) (one:=yeM r) (yql r) (fun _ _ h hi=>yGK h (zkR hi)) _ a (Nat.le_refl _) h)
theorem y7V {a:dA} (r:dN) (h:yjE a):yjE (yc0 a r) :=yIB (ylK (P:=yjE) (one:=yeM r) (yql r) (fun _ _ h _=>yK9 h _ _ _) _ a (Nat.le_refl _) h)
theorem y22 {a:dA} (s:Int) (d:List Int) (h:yH a):yH (yL a s d) :=
 ylK (P:=yH) (one:=ybH (yh a.2.1 s) a.2.1.1 s d) (ymG _ _ _ _) (fun b i h hi=>by
  unfold ybH;cases yeK b i s
  ·exact h
  ·exact yGK h (zkR hi)) _ a (Nat.le_refl _) h
theorem y7p {a:dA} (s:Int) (d:List Int) (h:yjE a):yjE (yL a s d) :=
 ylK (P:=yjE) (one:=ybH (yh a.2.1 s) a.2.1.1 s d) (ymG _ _ _ _) (fun b i h hi=>by
  unfold ybH;cases yeK b i s
  ·exact h
  ·exact yK9 h _ _ _) _ a (Nat.le_refl _) h
theorem y8F {k:Int} {a:dA} (r:dN) (h:Wk k a):Wk k (yc0 a r):=yEE (yjL _ _) (y5K r h.2.1) (y7V r h.2.2.1) h
theorem y8k {k:Int} {a:dA} (s:Int) (d:List Int) (h:Wk k a):Wk k (yL a s d):=yEE (yAm _ _ _) (y22 s d h.2.1) (y7p s d h.2.2.1) h
theorem y76 {k:Int} {a:dA} (h:Wk k a) (h1:a.2.2.2.2.2.1<60000) (h2:a.2.2.2.2.2.1-a.2.2.2.2.2.2.1≤3):Wk k (yQ a):=by
 obtain⟨⟨c1,c2,c3,c4,c5,c6,c7,c8,c9,c10,c11⟩,g2,g3,g4,g5⟩:=h;have e:i64.wrap (a.2.2.2.2.2.1+1)=a.2.2.2.2.2.1+1:=wr (by omega) (by omega);refine⟨⟨c1,c2,c3,c4,c5,c6,c7,⟨?_,?_⟩,?_,c10,c11⟩,g2,g3,g4,g5⟩
 ·show a.2.2.2.2.2.2.1≤i64.wrap (a.2.2.2.2.2.1+1); omega
 ·show i64.wrap (a.2.2.2.2.2.1+1)≤60000; omega
 ·show i64.wrap (a.2.2.2.2.2.1+1)≤a.2.2.2.2.2.2.1+4; omega
theorem yGb {a b:dA} (h:yG a=yG b):a.2.2.2.2.2.1=b.2.2.2.2.2.1:=congrArg (fun x=>x.2.2.2.2.1) h
theorem yIv {a b:dA} (h:yG a=yG b):a.2.2.2.2.2.2.1=b.2.2.2.2.2.2.1:=congrArg (fun x=>x.2.2.2.2.2.1) h
theorem yXd {a:dA} (h:yjE a):yG (yZ a)=yG (yfR (ycE a)):=by
 rw[yXe h,ygX];have:=ylh a;unfold yG at this ⊢;simp only[Prod.mk.injEq]at this;obtain⟨h1,h2,h3,h4,h5,h6,h7,h8,h9⟩:=this;unfold yfR ycE;simp only[h1,h2,h3,h4,h5,h7,h8,h9]
theorem y8C {k:Int} {a:dA} (h:Wk k a) (hk:k+1≤60000):Wk (k+1) (yw a)∧(yw a).2.2.2.2.2.1=a.2.2.2.2.2.1∧(yw a).2.2.2.2.2.1-(yw a).2.2.2.2.2.2.1≤3:=by
 have c:=h.1;unfold yc8 at c;unfold yw;rw[wr (by omega) (by omega)];cases h4:leb 4 (a.2.2.2.2.2.1-a.2.2.2.2.2.2.1)
 ·refine⟨yej h (by omega),rfl,?_⟩
  have: ¬(4≤a.2.2.2.2.2.1-a.2.2.2.2.2.2.1):=fun g=>by rw[zk2 g]at h4; cases h4
  show a.2.2.2.2.2.1-a.2.2.2.2.2.2.1≤3; omega
 ·have e1:(yZ a).2.2.2.2.2.1=a.2.2.2.2.2.1:=(yGb (yXd h.2.2.1)).trans rfl
  have e2:(yZ a).2.2.2.2.2.2.1=a.2.2.2.2.2.1:=(yIv (yXd h.2.2.1)).trans rfl;rw[cond_true];exact⟨y6a h hk,e1,by omega⟩
theorem y79 {k:Int} {a:dA} (s:Int) (d:List Int) (h:Wk k a) (hs:a.2.2.2.2.2.1<60000) (hk:k+1≤60000):Wk (k+1) (yad a s d).2∧(yad a s d).1=0:=by
 obtain⟨h1,h2,h3⟩:=y8C h hk;have h4:=y8F ((yw a).2.2.2.2.2.1,s,d) h1;have e1:=yGb (yjL (yw a) ((yw a).2.2.2.2.2.1,s,d));have e2:=yIv (yjL (yw a) ((yw a).2.2.2.2.2.1,s,d));unfold yad;generalize yc0 (yw a) ((yw a).2.2.2.2.2.1,s,d)=R at h4 e1 e2 ⊢;have h5:=y8k s d (y76 h4 (by omega) (by omega));generalize yL (yQ R) s d=Q at h5 ⊢;rw[h1.2.2.1.1,h4.2.2.1.1,h5.2.2.1.1];exact⟨h5,rfl⟩
theorem ySp {k:Int} {a:dA} {l:List dW} (h:Wk k a) (hd:yaC a.2.1 l=true):Wk k (yHj a l):=by
 obtain⟨⟨c1,c2,c3,c4,c5,c6,c7,c8,c9,c10,c11⟩,g2,g3,g4,g5⟩:=h;exact⟨⟨c1,c2,hd,c4,c5,c6,c7,c8,c9,c10,c11⟩,g2,g3,g4,g5⟩
theorem yPn (a:dA) (s:Int) (d:List Int):(yad a s d).2.2.1=a.2.1:=by
 unfold yad;have h2:=(ycW (yjL (yw a) ((yw a).2.2.2.2.2.1,s,d))).trans (y6y a);generalize yc0 (yw a) ((yw a).2.2.2.2.2.1,s,d)=R at h2 ⊢;have h3:=(ycW (yAm (yQ R) s d)).trans (show(yQ R).2.1=a.2.1 from h2);generalize yL (yQ R) s d=Q at h3 ⊢;cases ye (yw a)
 ·cases ye R
  ·exact h3
  ·exact h2
 ·exact y6y a
theorem y6b {k:Int} {a:dA} (s:Int) (h:Wk k a) (hk:k+1≤60000):Wk (k+1) (yah a s).2:=by
 unfold yah;cases ltb (yI a.2.2.2.2.2.2.2.2.1 s) 0
 ·generalize hD:(nth a.2.2.2.2.2.2.2.2.1 (yI a.2.2.2.2.2.2.2.2.1 s) (0,[])).2=D
  cases hc:(yN a s D !=0)
  ·have hz:=yNp (bne_eq_false_iff_eq.1 hc)
   obtain⟨h1,h2⟩:=y79 s D h hz.2.2.2.2.2.2.1 hk;rw[show((yad a s D).1==0)=true from beq_iff_eq.2 h2];exact ySp h1 (by rw[yPn]; exact y2Q _ h.1.2.2.1)
  ·exact yej h (by omega)
 ·exact yej h (by omega)
theorem y6c {k:Int}: ∀(n i:Nat) (j:Int) (a:dA),Wk j a→j+n≤k→k≤60000→Wk k (goE yoH (fun b=>((0:Int),b)) n i a).2
 | 0,_,j,a,h,h1,_=>yej h (by omega)
 | n+1,i,j,a,h,h1,h2=>by
  have h3:=y6b (nth a.2.2.2.2.2.2.2.2.1 0 (0,[])).1 h (by omega);unfold goE yoH;cases((yah a (nth a.2.2.2.2.2.2.2.2.1 0 (0,[])).1).1 !=0)
  ·exact y6c n (i+1) (j+1) _ h3 (by omega) h2
  ·exact yej h3 (by omega)
theorem y8B {k:Int} {a:dA} (h:Wk k a) (hk:k+8≤60000):Wk (k+8) (y6S a).2:=by
 have:=yoK h.1.2.2.1 h.1.1;exact y6c _ 0 k a h (by omega) hk
theorem y8G {k:Int} {a:dA} {b n:Int} (h:Wk k a) (hb:yn2 a.2.1 b=true) (hn:isW n=true):Wk k (ypf a b n).2:=by
 unfold ypf;cases hs:(yaq a (yax a.2.1 b)).2
 ·exact h
 ·have hstr:=yJJ hb
  have hl:=yCX (y7C h) hstr hs;refine ySp h (y2R h.1.2.2.1 ⟨(ybD.1 hstr).2,by rw[List.length_set]; exact hl,y2J ?_ hn⟩);unfold yaq;cases hk:leb 0 (yI a.2.2.2.2.2.2.2.2.1 (yax a.2.1 b))
  ·rw[h.2.2.2.1]; exact y2P _ _
  ·have:=(yoM (d:=((0:Int),([]:List Int))) hk).1
   exact ye1 (P:=fun e:dW=>e.2.all isW=true) this (fun e he=>((yt8.1 h.1.2.2.1).1 e he).2.2)
def Cw (k:Int) (a:dA):Prop:=yc8 a∧a.2.2.2.2.2.2.2.2.2.2.2=false∧a.2.2.2.2.2.2.2.1≤k
theorem yc9 {k j:Int} {a:dA} (h:Cw k a) (hj:k≤j):Cw j a:=⟨h.1,h.2.1,Int.le_trans h.2.2 hj⟩
theorem yzi {k:Int} {a b:dA} (hc:yG b=yG a) (h:Cw k a):Cw k b:=by
 refine⟨y6z hc h.1,?_⟩;unfold yG at hc;simp only[Prod.mk.injEq]at hc;obtain⟨_,_,_,_,_,_,h7,_,h9⟩:=hc;rw[h7,h9]; exact h.2
theorem y7P {k:Int} {a:dA} (h:Cw k a) (hk:k+1≤60000):Cw (k+1) (yfR a):=by
 obtain⟨⟨c1,c2,c3,c4,c5,c6,c7,c8,c9,c10,c11⟩,h4,h5⟩:=h;have e:i64.wrap (a.2.2.2.2.2.2.2.1+1)=a.2.2.2.2.2.2.2.1+1:=wr (by omega) (by omega);refine⟨⟨c1,c2,c3,c4,c5,c6,c7,c8,c9,?_,?_⟩,h4,?_⟩
 ·show 0≤i64.wrap (a.2.2.2.2.2.2.2.1+1); omega
 ·show i64.wrap (a.2.2.2.2.2.2.2.1+1)≤_; omega
 ·show i64.wrap (a.2.2.2.2.2.2.2.1+1)≤_; omega
theorem y0U {k:Int} {a:dA} (h:Cw k a) (hk:k+1≤60000):Cw (k+1) (yao a):=yzi (ygX _) (y7P h hk)
theorem y7i {k:Int} {a:dA} (h:Cw k a):Cw k (ycE a):=by
 obtain⟨⟨c1,c2,c3,c4,c5,c6,c7,c8,c9,c10,c11⟩,h4,h5⟩:=h;refine⟨⟨c1,c2,c3,c4,c5,c6,⟨?_,?_⟩,⟨Int.le_refl _,c8.2⟩,?_,c10,c11⟩,h4,h5⟩
 ·show 0≤a.2.2.2.2.2.1; omega
 ·show a.2.2.2.2.2.1≤60000; omega
 ·show a.2.2.2.2.2.1≤a.2.2.2.2.2.1+4; omega
theorem y5A {k:Int} {a:dA} (h:Cw k a) (hk:k+1≤60000):Cw (k+1) (yZ a):=by
 have hs:Cw k (yz a):=yzi (ylh a) h;unfold yZ;cases ye (yz a)
 ·exact y0U (y7i hs) hk
 ·exact yc9 hs (by omega)
theorem y8q {k:Int} {a:dA} (h:Cw k a) (hk:k+1≤60000):Cw (k+1) (yw a):=by
 unfold yw;cases leb 4 (i64.wrap (a.2.2.2.2.2.1-a.2.2.2.2.2.2.1))
 ·exact yc9 h (by omega)
 ·exact y5A h hk
theorem y7O {a:dA} (c:yc8 a) (hd:ye (yw a)=false):(yw a).2.2.2.2.2.1=a.2.2.2.2.2.1∧(yw a).2.2.2.2.2.1-(yw a).2.2.2.2.2.2.1≤3:=by
 unfold yc8 at c;unfold yw at hd ⊢;rw[wr (by omega) (by omega)]at hd ⊢;cases h4:leb 4 (a.2.2.2.2.2.1-a.2.2.2.2.2.2.1)
 ·have: ¬(4≤a.2.2.2.2.2.1-a.2.2.2.2.2.2.1):=fun g=>by rw[zk2 g]at h4; cases h4
  refine⟨rfl,?_⟩;show a.2.2.2.2.2.1-a.2.2.2.2.2.2.1≤3; omega
 ·rw[h4,cond_true]at hd
  rw[cond_true];have hs:=yGb (ylh a);unfold yZ at hd ⊢;cases hq:ye (yz a)
  ·have e1:(yao (ycE (yz a))).2.2.2.2.2.1=(yz a).2.2.2.2.2.1:=(yGb (ygX (ycE (yz a)))).trans rfl
   have e2:(yao (ycE (yz a))).2.2.2.2.2.2.1=(yz a).2.2.2.2.2.1:=(yIv (ygX (ycE (yz a)))).trans rfl;rw[cond_false];omega
  ·rw[hq,cond_true]at hd
   rw[hq]at hd; cases hd
theorem y7Q {k:Int} {a:dA} (h:Cw k a) (h1:a.2.2.2.2.2.1<60000) (h2:a.2.2.2.2.2.1-a.2.2.2.2.2.2.1≤3):Cw k (yQ a):=by
 obtain⟨⟨c1,c2,c3,c4,c5,c6,c7,c8,c9,c10,c11⟩,g4,g5⟩:=h;have e:i64.wrap (a.2.2.2.2.2.1+1)=a.2.2.2.2.2.1+1:=wr (by omega) (by omega);refine⟨⟨c1,c2,c3,c4,c5,c6,c7,⟨?_,?_⟩,?_,c10,c11⟩,g4,g5⟩
 ·show a.2.2.2.2.2.2.1≤i64.wrap (a.2.2.2.2.2.1+1); omega
 ·show i64.wrap (a.2.2.2.2.2.1+1)≤60000; omega
 ·show i64.wrap (a.2.2.2.2.2.1+1)≤a.2.2.2.2.2.2.1+4; omega
theorem y7R {k:Int} {a:dA} (s:Int) (d:List Int) (h:Cw k a) (hs:a.2.2.2.2.2.1<60000) (hk:k+1≤60000):Cw (k+1) (yad a s d).2:=by
 have h1:=y8q h hk;have h2:=fun hd=>y7O h.1 hd
 have h4:Cw (k+1) (yc0 (yw a) ((yw a).2.2.2.2.2.1,s,d)):=yzi (yjL _ _) h1;have e1:=yGb (yjL (yw a) ((yw a).2.2.2.2.2.1,s,d));have e2:=yIv (yjL (yw a) ((yw a).2.2.2.2.2.1,s,d));unfold yad;generalize yc0 (yw a) ((yw a).2.2.2.2.2.1,s,d)=R at h4 e1 e2 ⊢;cases hd:ye (yw a)
 ·obtain⟨g1,g2⟩:=h2 hd
  have h5:Cw (k+1) (yL (yQ R) s d):=yzi (yAm _ _ _) (y7Q h4 (by omega) (by omega));generalize yL (yQ R) s d=Q at h5 ⊢;cases ye R
  ·exact h5
  ·exact h4
 ·exact h1
theorem ySf {k:Int} {a:dA} {l:List dW} (h:Cw k a) (hd:yaC a.2.1 l=true):Cw k (yHj a l):=by
 obtain⟨⟨c1,c2,c3,c4,c5,c6,c7,c8,c9,c10,c11⟩,g4,g5⟩:=h;exact⟨⟨c1,c2,hd,c4,c5,c6,c7,c8,c9,c10,c11⟩,g4,g5⟩
theorem y5B {k:Int} {a:dA} (s:Int) (h:Cw k a) (hk:k+1≤60000):Cw (k+1) (yah a s).2:=by
 unfold yah;cases ltb (yI a.2.2.2.2.2.2.2.2.1 s) 0
 ·generalize hD:(nth a.2.2.2.2.2.2.2.2.1 (yI a.2.2.2.2.2.2.2.2.1 s) (0,[])).2=D
  cases hc:(yN a s D !=0)
  ·have hz:=yNp (bne_eq_false_iff_eq.1 hc)
   have h1:=y7R s D h hz.2.2.2.2.2.2.1 hk;cases((yad a s D).1==0)
   ·exact h1
   ·exact ySf h1 (by rw[yPn]; exact y2Q _ h.1.2.2.1)
  ·exact yc9 h (by omega)
 ·exact yc9 h (by omega)
theorem y5C {k:Int}: ∀(n i:Nat) (j:Int) (a:dA),Cw j a→j+n≤k→k≤60000→Cw k (goE yoH (fun b=>((0:Int),b)) n i a).2
 | 0,_,j,a,h,h1,_=>yc9 h (by omega)
 | n+1,i,j,a,h,h1,h2=>by
  have h3:=y5B (nth a.2.2.2.2.2.2.2.2.1 0 (0,[])).1 h (by omega);unfold goE yoH;cases((yah a (nth a.2.2.2.2.2.2.2.2.1 0 (0,[])).1).1 !=0)
  ·exact y5C n (i+1) (j+1) _ h3 (by omega) h2
  ·exact yc9 h3 (by omega)
theorem y8r {k:Int} {a:dA} {b n:Int} (h:Cw k a) (hkp:yH a) (hb:yn2 a.2.1 b=true) (hn:isW n=true):Cw k (ypf a b n).2:=by
 unfold ypf;cases hs:(yaq a (yax a.2.1 b)).2
 ·exact h
 ·have hstr:=yJJ hb
  have hl:=yCX (yy7.2 ⟨h.1,hkp⟩) hstr hs;refine ySf h (y2R h.1.2.2.1 ⟨(ybD.1 hstr).2,by rw[List.length_set]; exact hl,y2J ?_ hn⟩);unfold yaq;cases hk:leb 0 (yI a.2.2.2.2.2.2.2.2.1 (yax a.2.1 b))
  ·rw[h.2.1]; exact y2P _ _
  ·have:=(yoM (d:=((0:Int),([]:List Int))) hk).1
   exact ye1 (P:=fun e:dW=>e.2.all isW=true) this (fun e he=>((yt8.1 h.1.2.2.1).1 e he).2.2)
theorem y8g {k m:Int} {a:dA} (h:Cw k a) (hkp:yH a) (hl:a.2.2.2.1= -1) (hm:inb m a.2.2.1.length=true) (hk:k+1≤60000):Cw (k+1) (yic a m):=by
 have hmi:=zj6.1 hm;have hn:=hkp.1.2
 have hw:Cw k (yby a m):=by
  obtain⟨⟨c1,c2,c3,c4,c5,c6,c7,c8,c9,c10,c11⟩,b,t⟩:=h;refine⟨⟨c1,c2,c3,⟨?_,?_⟩,⟨Int.le_refl _,by show(0:Int)≤a.2.1.2; omega⟩,fun e=>rfl,c7,c8,c9,c10,c11⟩,b,t⟩
  ·show -1≤m; omega
  ·show m≤a.2.1.1-1; omega
 unfold yic;rw[show(a.2.2.2.1== -1)=true from beq_iff_eq.2 hl];show Cw (k+1) (bif(!(ye a)&&(!a.2.2.2.2.2.2.2.2.2.2.2&&ltb a.2.2.2.2.2.2.2.1 60000))then yao (yby a m)else yby a m);cases(!(ye a)&&(!a.2.2.2.2.2.2.2.2.2.2.2&&ltb a.2.2.2.2.2.2.2.1 60000))
 ·exact yc9 hw (by omega)
 ·exact y0U hw hk
theorem y7j {k:Int} {a b:dA} (h:Cw k a) (hkp:yH a) (ht:Turned a b) (hk:k+8≤60000):Cw (k+8) b:=by
 have hn:=hkp.1.2;cases ht with
 | same=>exact yc9 h (by omega)
 | put b x hb hx=>exact yc9 (y8r h hkp hb hx) (by omega)
 | flush s=>exact yc9 (y5B s h (by omega)) (by omega)
 | all=>have:=yoK h.1.2.2.1 h.1.1; exact y5C _ 0 k a h (by omega) hk
 | fail m hl hm=>exact yc9 (y8g h hkp hl hm (by omega)) (by omega)
 | spare hl _ =>
  refine yc9 (y0U (k:=k) ?_ (by omega)) (by omega);obtain⟨⟨c1,c2,c3,c4,c5,c6,c7,c8,c9,c10,c11⟩,b,t⟩:=h;exact⟨⟨c1,c2,c3,c4,⟨Int.le_refl _,by show(0:Int)≤a.2.1.2; omega⟩,fun e=>rfl,c7,c8,c9,c10,c11⟩,b,t⟩
 | step hl hf hb =>
  have hmi:=zj6.1 hl;have e:=ytt a a.2.2.2.1 (ycA a.2.2.2.2.1) [nth (yaA a a.2.2.2.2.1).1 a.2.2.2.1 0];have hp:Cw k (yag a):=yzi e h;have e1:(yag a).2.2.2.2.1=a.2.2.2.2.1:=yXf e;have e2:(yag a).2.1=a.2.1:=ycW e;have e3:(yag a).2.2.2.1=a.2.2.2.1:=congrArg (fun x=>x.2.2.1) e;unfold yld;cases(yaA a a.2.2.2.2.1).2
  ·exact yc9 h (by omega)
  ·generalize yag a=R at hp e1 e2 e3 ⊢
   cases ye R
   ·obtain⟨⟨c1,c2,c3,c4,c5,c6,c7,c8,c9,c10,c11⟩,g4,g5⟩:=hp
    have hg:=yk.1 c1;have e4:i64.wrap (R.2.2.2.2.1+1)=R.2.2.2.2.1+1:=wr (by omega) (by omega);refine yc9 (k:=k) ⟨⟨c1,c2,c3,c4,⟨?_,?_⟩,fun e=> ?_,c7,c8,c9,c10,c11⟩,g4,g5⟩ (by omega)
    ·show 0≤i64.wrap (R.2.2.2.2.1+1); omega
    ·show i64.wrap (R.2.2.2.2.1+1)≤R.2.1.2; rw[e4,e1,e2]; omega
    ·have:R.2.2.2.1= -1:=e
     omega
   ·exact yc9 hp (by omega)
 | check=>exact yc9 (y5A h (by omega)) (by omega)
 | spoil m s _ hm _ _=>exact yc9 (yzi (a:=a) (b:=yjC a m (spoil (nth a.2.2.1 m yc) (ycA s))) rfl h) (by omega)
theorem y2M {a:dA} (h:yE a=true):yaC a.2.1 a.2.2.2.2.2.2.2.2.1=true:=by
 simp only[yE,Bool.and_eq_true]at h; exact h.2.2.2.1
theorem y7F {k:Int} {a b:dA} (h:Wk k a) (ht:Turned a b) (hk:k+8≤60000):Wk (k+8) b:=by
 cases ht with
 | same=>exact yej h (by omega)
 | put b x hb hx=>exact yej (y8G h hb hx) (by omega)
 | flush s=>exact yej (y6b s h (by omega)) (by omega)
 | all=>exact y8B h hk
 | fail m hl hm=>exact yej (y8l h hl hm (by omega)) (by omega)
 | spare hl _=>exact yej (y77 h hl (by omega)) (by omega)
 | step hl _ hb=>exact yej (y8m h hl hb) (by omega)
 | check=>exact yej (y6a h (by omega)) (by omega)
 | spoil m s _ hm _ _=>exact yej (y78 h hm) (by omega)
def Nie (M:Nat) (x:dA):Prop:=x.2.2.1.length≤5∧yap x.2.2.1∧x.2.2.2.2.2.2.2.2.1.length≤M
theorem y29 {M:Nat} {a:dA} (s:Int) (h:Nie M a):Nie M (yah a s).2:=by
 unfold yah;cases ltb (yI a.2.2.2.2.2.2.2.2.1 s) 0
 ·generalize (nth a.2.2.2.2.2.2.2.2.1 (yI a.2.2.2.2.2.2.2.2.1 s) (0,[])).2=D
  cases(yN a s D !=0)
  ·have hw:=y63 (d:=a.2.2.2.2.2.2.2.2.1) s D ⟨h.1,h.2.1,rfl⟩
   cases((yad a s D).1==0)
   ·exact⟨hw.1,hw.2.1,by show(yad a s D).2.2.2.2.2.2.2.2.2.1.length≤M; rw[hw.2.2]; exact h.2.2⟩
   ·refine⟨hw.1,hw.2.1,Nat.le_trans ?_ h.2.2⟩
    show(yIw _ _).length≤_;unfold yIw;rw[List.length_append,List.length_take,List.length_drop]; omega
  ·exact h
 ·exact h
theorem y6H {M:Nat}: ∀(k i:Nat) (a:dA),Nie M a→Nie M (goE yoH (fun b=>(0,b)) k i a).2
 | 0,_,_,h=>h
 | k+1,i,a,h=>by
  have hf:=y29 (nth a.2.2.2.2.2.2.2.2.1 0 (0,[])).1 h;unfold goE yoH;cases hc:((yah a (nth a.2.2.2.2.2.2.2.2.1 0 (0,[])).1).1 !=0)
  ·exact y6H k (i+1) _ hf
  ·exact hf
theorem y6I {a:dA} (h:yE a=true):Nie 8 a:=⟨y5y h,yKY h,yoK (y2M h) (yjf h)⟩
theorem y72 (l:List dW) (e:dW) (h:l.Pairwise (fun x y=>x.1<y.1)):(yG8 l e).length≤l.length+1:=by
 rw[y3a h,List.length_append,List.length_cons]
 have h7: ∀(l:List dW) (s:Int),(l.filter (fun x=>ltb x.1 s)).length+(l.filter (fun x=>ltb s x.1)).length≤l.length:=by
  intro l s
  induction l with
  | nil=>exact Nat.le_refl _
  | cons x t ih =>
   rw[List.filter_cons,List.filter_cons,List.length_cons];by_cases hx:x.1<s
   ·rw[zky hx,zk3 (show x.1≤s by omega)]; simp only[if_true,Bool.false_eq_true,if_false,List.length_cons]; omega
   ·rw[zk3 (show s≤x.1 by omega)]
    cases ltb s x.1<;>simp only[if_true,Bool.false_eq_true,if_false,List.length_cons]<;>omega
 have:=h7 l e.1;omega
theorem yGU {M:Nat} {d:List dW} {x:dA} (h:yaI d x) (hd:d.length≤M):Nie M x:=⟨h.1,h.2.1,by rw[h.2.2]; exact hd⟩
theorem yGT {M N:Nat} {x:dA} (h:Nie M x) (hd:M≤N):Nie N x:=⟨h.1,h.2.1,Nat.le_trans h.2.2 hd⟩
theorem y65 {a b:dA} (h:yE a=true) (ht:Turned a b):Nie 9 b:=by
 have hn:=y6I h;have hd8:a.2.2.2.2.2.2.2.2.1.length≤9:=Nat.le_trans hn.2.2 (by omega);have hlo:=y8u h;cases ht with
 | same=>exact yGT hn (by omega)
 | put b x hb hx =>
  unfold ypf;cases(yaq a (yax a.2.1 b)).2
  ·exact yGT hn (by omega)
  ·refine⟨hn.1,hn.2.1,?_⟩
   have:=y72 a.2.2.2.2.2.2.2.2.1 (yax a.2.1 b,(yaq a (yax a.2.1 b)).1.set (yue a.2.1 b).toNat x) (yt8.1 (y2M h)).2;have h8:=hn.2.2;show(yG8 _ _).length≤9;omega
 | flush s=>exact yGT (y29 s hn) (by omega)
 | all=>exact yGT (y6H _ 0 a hn) (by omega)
 | fail m _ hm=>exact yGU (y8i hlo hm).1 hd8
 | spare _ _=>exact yGU (y7Y hlo).1 hd8
 | step hl _ _=>exact yGU (y7w hlo.1 hl) hd8
 | check=>exact yGU (yLq hlo.1) hd8
 | spoil m s _ hm _ _ =>
  refine yGU (d:=a.2.2.2.2.2.2.2.2.1) ⟨?_,?_,rfl⟩ hd8
  ·show(a.2.2.1.set _ _).length≤5
   rw[List.length_set]; exact hn.1
  ·exact ywB hn.2.1 (yLF _ (ye1 (P:=fun x:dM=>yu x=true) hm hn.2.1))
theorem y7c (a:dA) (s:Int) (d:List Int):(yad a s d).2.2.2.1.length=a.2.2.1.length:=by
 unfold yad;have hc:=y8f a;have hr:=(yKP (yw a) ((yw a).2.2.2.2.2.1,s,d)).trans hc;generalize yc0 (yw a) ((yw a).2.2.2.2.2.1,s,d)=R at hr ⊢;have hq:(yL (yQ R) s d).2.2.1.length=a.2.2.1.length:=(y5E (yQ R) s d).trans hr;generalize yL (yQ R) s d=Q at hq ⊢;cases ye (yw a)
 ·cases ye R
  ·exact hq
  ·exact hr
 ·exact hc
theorem yXk (a:dA) (s:Int):(yah a s).2.2.2.1.length=a.2.2.1.length:=by
 unfold yah;cases ltb (yI a.2.2.2.2.2.2.2.2.1 s) 0
 ·generalize (nth a.2.2.2.2.2.2.2.2.1 (yI a.2.2.2.2.2.2.2.2.1 s) (0,[])).2=D
  have hw:=y7c a s D;cases(yN a s D !=0)
  ·cases((yad a s D).1==0)
   ·exact hw
   ·exact hw
  ·rfl
 ·rfl
theorem y5x: ∀(k i:Nat) (a:dA),(goE yoH (fun b=>(0,b)) k i a).2.2.2.1.length=a.2.2.1.length
 | 0,_,_=>rfl
 | k+1,i,a=>by
  have hf:=yXk a (nth a.2.2.2.2.2.2.2.2.1 0 (0,[])).1;unfold goE yoH;cases hc:((yah a (nth a.2.2.2.2.2.2.2.2.1 0 (0,[])).1).1 !=0)
  ·exact(y5x k (i+1) _).trans hf
  ·exact hf
theorem y7a {a b:dA} (h:yE a=true) (ht:Turned a b):b.2.2.1.length=a.2.2.1.length:=by
 cases ht with
 | same=>rfl
 | put b x hb hx=>unfold ypf; cases(yaq a (yax a.2.1 b)).2<;>rfl
 | flush s=>exact yXk a s
 | all=>exact y5x _ 0 a
 | fail m _ hm =>
  have hf:=(ySi (yKY h) hm).2;unfold yic;cases(a.2.2.2.1== -1||a.2.2.2.1==m)
  ·exact hf
  ·cases(!(ye a)&&(!a.2.2.2.2.2.2.2.2.2.2.2&&ltb a.2.2.2.2.2.2.2.1 60000))
   ·exact hf
   ·exact(yGM (yby a m)).trans hf
 | spare _ _=>exact(yGM (yd0 a)).trans (List.length_set)
 | step _ _ _ =>
  have e2:(yag a).2.2.1.length=a.2.2.1.length:=yqk _ _ _ _;unfold yld;cases(yaA a a.2.2.2.2.1).2
  ·rfl
  ·generalize yag a=R at e2 ⊢
   cases ye R
   ·exact e2
   ·exact e2
 | check=>exact yIa a
 | spoil m s _ _ _ _=>exact List.length_set
theorem y6X {a:dA} (s:Int) (d:List Int) (h:yH a):yH (yad a s d).2:=by
 have hc:yH (yw a):=by
  unfold yw;cases leb 4 (i64.wrap (a.2.2.2.2.2.1-a.2.2.2.2.2.2.1))
  ·exact h
  ·exact yX7 h
 unfold yad;have hr:=y5K ((yw a).2.2.2.2.2.1,s,d) hc;generalize yc0 (yw a) ((yw a).2.2.2.2.2.1,s,d)=R at hr ⊢;have hq:yH (yL (yQ R) s d):=y22 (a:=yQ R) s d hr;generalize yL (yQ R) s d=Q at hq ⊢;cases ye (yw a)
 ·cases ye R
  ·exact hq
  ·exact hr
 ·exact hc
theorem yX8 {a:dA} (s:Int) (h:yH a):yH (yah a s).2:=by
 unfold yah;cases ltb (yI a.2.2.2.2.2.2.2.2.1 s) 0
 ·generalize (nth a.2.2.2.2.2.2.2.2.1 (yI a.2.2.2.2.2.2.2.2.1 s) (0,[])).2=D
  have hw:=y6X s D h;cases(yN a s D !=0)
  ·cases((yad a s D).1==0)
   ·exact hw
   ·exact hw
  ·exact h
 ·exact h
theorem y5J: ∀(k i:Nat) (a:dA),yH a→yH (goE yoH (fun b=>(0,b)) k i a).2
 | 0,_,_,h=>h
 | k+1,i,a,h=>by
  have hf:=yX8 (nth a.2.2.2.2.2.2.2.2.1 0 (0,[])).1 h;unfold goE yoH;cases hc:((yah a (nth a.2.2.2.2.2.2.2.2.1 0 (0,[])).1).1 !=0)
  ·exact y5J k (i+1) _ hf
  ·exact hf
theorem y4p {a:dA} {m:Int} (h:yH a) (hl:a.2.2.2.1= -1) (hm:inb m a.2.2.1.length=true):yH (yby a m):=by
 have hmi:=zj6.1 hm;obtain⟨⟨g1,g2⟩,g3⟩:=h;refine⟨⟨?_,?_⟩,g3⟩
 ·show yLc m a.2.2.2.2.2.2.2.2.2.2.2 a.2.1.2 (a.2.2.1.set m.toNat (yub (nth a.2.2.1 m yc)))
  refine yAX (fun i hi=> ?_) (fun hi=> ?_)
  ·obtain⟨e1,e2,e3⟩:=g1 i hi
   refine⟨e1,e2,fun e=> ?_⟩;rcases e3 e with e | e
   ·omega
   ·exact .inr e
  ·have:=g1 m.toNat hi
   rw[Int.toNat_of_nonneg hmi.1]at this;exact⟨y0X this.1,this.2.1,fun _=> .inl (Int.toNat_of_nonneg hmi.1)⟩
 ·show((a.2.2.1.set m.toNat (yub (nth a.2.2.1 m yc))).length:Int)=a.2.1.1
  rw[List.length_set]; exact g2
theorem y4q {a:dA} (h:yH a) (hgo:yf a.2.1=true):yH (yd0 a):=by
 obtain⟨⟨g1,g2⟩,g3⟩:=h;have hg:=yk.1 hgo;refine⟨⟨yAX g1 (fun hi=>⟨yIJ (by omega) (by omega),?_,fun e=> ?_⟩),?_⟩,g3⟩
 ·unfold ycB
  rw[zk2 (show 1≤6+a.2.1.2 by omega),zk2 (show 6+a.2.1.2≤20 by omega)];show((List.replicate (6+a.2.1.2).toNat ([]:List Int)).length:Int)=6+a.2.1.2;rw[List.length_replicate]; omega
 ·unfold ycB at e
  rw[zk2 (show 1≤6+a.2.1.2 by omega),zk2 (show 6+a.2.1.2≤20 by omega)]at e;cases e
 ·show((a.2.2.1.set a.2.2.2.1.toNat (ycB (6+a.2.1.2))).length:Int)=a.2.1.1
  rw[List.length_set]; exact g2
theorem ySl {a b:dA} (h:yH a) (hgo:yf a.2.1=true) (ht:Turned a b):yH b:=by
 cases ht with
 | same=>exact h
 | put b x hb hx=>unfold ypf; cases(yaq a (yax a.2.1 b)).2<;>exact h
 | flush s=>exact yX8 s h
 | all=>exact y5J _ 0 a h
 | fail m hl hm =>
  have hf:=y4p h hl hm;unfold yic;rw[show(a.2.2.2.1== -1)=true from beq_iff_eq.2 hl];show yH (bif(!(ye a)&&(!a.2.2.2.2.2.2.2.2.2.2.2&&ltb a.2.2.2.2.2.2.2.1 60000))then yao (yby a m)else yby a m);cases(!(ye a)&&(!a.2.2.2.2.2.2.2.2.2.2.2&&ltb a.2.2.2.2.2.2.2.1 60000))
  ·exact hf
  ·exact yIH hf
 | spare _ _=>exact yIH (y4q h hgo)
 | step hl _ _ =>
  have hp:yH (yag a):=yGK h hl;unfold yld;cases(yaA a a.2.2.2.2.1).2
  ·exact h
  ·generalize yag a=R at hp ⊢
   cases ye R
   ·exact hp
   ·exact hp
 | check=>exact yX7 h
 | spoil m s _ hm _ _=>exact yzT h hm (fun g=>⟨yLF _ g.1,by rw[(yJn _ _).1]; exact g.2.1,by rw[(yJn _ _).2]; exact g.2.2⟩)
def y6R (a:dA):Prop:= ∀m∈a.2.2.1,2≤m.1.length
theorem y7y {a:dA} (h:yH a) (hg:1≤a.2.1.2):y6R a:=fun m hm=>by
 obtain⟨i,hi,rfl⟩:=List.getElem_of_mem hm;have:=(h.1.1 i hi).2.1;rw[zkS,zkJ hi]at this;omega
theorem yZ4 {a b:dA} (ht:Turned a b):b.2.1=a.2.1:=by
 have fl: ∀(a:dA) (s:Int),(yah a s).2.2.1=a.2.1:=fun a s=>by
  unfold yah;cases ltb (yI a.2.2.2.2.2.2.2.2.1 s) 0
  ·generalize (nth a.2.2.2.2.2.2.2.2.1 (yI a.2.2.2.2.2.2.2.2.1 s) (0,[])).2=D
   have hw:=yPn a s D;cases(yN a s D !=0)
   ·cases((yad a s D).1==0)
    ·exact hw
    ·exact hw
   ·rfl
  ·rfl
 have al: ∀(k i:Nat) (a:dA),(goE yoH (fun b=>(0,b)) k i a).2.2.1=a.2.1:=by
  intro k
  induction k with
  | zero=>intro _ _; rfl
  | succ k ih =>
   intro i a;have hf:=fl a (nth a.2.2.2.2.2.2.2.2.1 0 (0,[])).1;unfold goE yoH;cases hc:((yah a (nth a.2.2.2.2.2.2.2.2.1 0 (0,[])).1).1 !=0)
   ·exact(ih (i+1) _).trans hf
   ·exact hf
 cases ht with
 | same=>rfl
 | put b x hb hx=>unfold ypf; cases(yaq a (yax a.2.1 b)).2<;>rfl
 | flush s=>exact fl a s
 | all=>exact al _ 0 a
 | fail m hl hm =>
  unfold yic;cases(a.2.2.2.1== -1||a.2.2.2.1==m)
  ·rfl
  ·cases(!(ye a)&&(!a.2.2.2.2.2.2.2.2.2.2.2&&ltb a.2.2.2.2.2.2.2.1 60000))
   ·rfl
   ·exact(ycW (ygX (yby a m))).trans rfl
 | spare _ _=>exact(ycW (ygX (yd0 a))).trans rfl
 | step _ _ _ =>
  have e2:(yag a).2.1=a.2.1:=ycW (ytt _ _ _ _);unfold yld;cases(yaA a a.2.2.2.2.1).2
  ·rfl
  ·generalize yag a=R at e2 ⊢
   cases ye R
   ·exact e2
   ·exact e2
 | check=>exact yNo a
 | spoil m s _ _ _ _=>rfl
theorem ySn {a b:dA} (h:yE a=true) (ht:Turned a b):y6R b:=by
 have hg:=yjf h;have hge:=yk.1 hg;exact y7y (ySl (yy7.1 h).2 hg ht) (by rw[yZ4 ht]; omega)
def y3B:Code:=(f207.body).getD .skip
def y39:Env:=zkw TT [(162,yzb)] []
theorem yTq:FrOk prog ⟨y39,18,fun _=>none⟩ y3B:=zkA mixed yd ⟨yLQ,trivial⟩
abbrev ysh:List Par:= [.rd tN]
abbrev yCi:List OT:= [⟨false,tL,(.ow .fz)⟩]
def ywR (a0:dN):Option (zaY yCi×zak ysh) :=let r1:=yB a0;bif(!r1)then some ((([]:List Int),()),()) else bif(zkl ([21322,a0.1,a0.2.1,(a0.2.2.length:Int)]:List Int).length a0.2.2.length 8)then some (((([21322,a0.1,a0.2.1,(a0.2.2.length:Int)]:List Int)++a0.2.2),()),()) else none
theorem yY4:ConOk prog 207 ⟨ysh,yCi,fun x=>ywR x.1⟩:=zkI (yTq) func207 ntmps207.symm fun x=>by kernel_rfl
def ymw (a0:dN):List Int:=yo6 a0
theorem y1v (a0:dN) (hk:zjx ysh (a0,())):ywR a0=(fun n=>some ((n,()),())) (ymw a0):=by
 unfold ywR ymw yo6;cases hr:yB a0
 ·rfl
 ·have:=(yPi.1 hr).2.2.1
  rw[zkF.2 (show(([21322,a0.1,a0.2.1,(a0.2.2.length:Int)]:List Int).length+a0.2.2.length)*8≤140737488355328 by simp only[List.length_cons,List.length_nil]; omega)]; rfl
def yIl:Con:=⟨ysh,yCi,fun x=>(fun n=>some ((n,()),())) (ymw x.1)⟩
theorem y2r:ConOk prog 207 yIl:=(yY4).mono (fun x r hk h=>(y1v x.1 hk).trans h)
end
end Go.Tf
