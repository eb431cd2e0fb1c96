/- Functions of the program, and what they come to. -/
import Derived.Test.YtgmadfpnljibhaaGreatExactFlushStripeF9
namespace Go.Tf
noncomputable section
open Go.Proofs
set_option synthInstance.maxHeartbeats 400000
set_option synthInstance.maxSize 10000
set_option linter.unusedVariables false
set_option linter.unusedSimpArgs false
set_option maxRecDepth 100000
section
def yH6:Code:=(Tryz.f141.body).getD .skip
def yIv:Env:=zki TT [(135,yl)] []
theorem yPu:FrOk Tryz.prog ⟨yIv,9,fun _=>none⟩ yH6:=zkp yb yc ⟨yp,trivial⟩
def yRV:Nat→Option Seg:=fun _=>none
abbrev ymN:List Par:= [.rd tI]
abbrev ysN:List OT:= [⟨false,tI,.fz⟩]
def yv5 (a0:Int):Option (ResD ysN×MutD ymN) :=
 let r1:=ya a0 0 1099511627776
 bif (!r1) then
 some (((-1),()),())
 else
 some (((IntKind.i64.wrap ((IntKind.i64.wrap (a0+2))+4)),()),())
theorem yYT (x:InD ymN):zjH ⟨yIv,9,yRV⟩ Tryz.f141.results.toList yH6 ymN ysN x=yv5 x.1:=by kernel_rfl
theorem yUp:ConOk Tryz.prog 141 ⟨ymN,ysN,fun x=>yv5 x.1⟩:=zkh (yPu) Tryz.func141 (by kernel_rfl) (by kernel_rfl) Tryz.ntmps141.symm (by decide) (fun x r h=>(yYT x).trans h)
def yfi (a0:Int):Int :=
 let r1:=ya a0 0 1099511627776
 bif (!r1) then
 (-1)
 else
 (IntKind.i64.wrap ((IntKind.i64.wrap (a0+2))+4))
def yvr:Con:=⟨ymN,ysN,fun x=>(fun n=>some ((n,()),())) (yfi x.1)⟩
theorem yWN (a0:Int):yv5 a0=(fun n=>some ((n,()),())) (yfi a0):=zkS (p:=fun (n:Int)=>((n,()),())) (zkx (p:=fun (n:Int)=>((n,()),())) rfl rfl)
theorem yHg:ConOk Tryz.prog 141 yvr:=(yUp).mono (fun x r _ h=>(yWN x.1).trans h)
theorem yxE (s:Int):yfi s=yr6 s:=by
 unfold yfi yr6
 rw [ye1]
 by_cases h:0≤s∧s≤1099511627776
 ·rw [zk0 h.1,zk0 h.2,wr (show -9223372036854775808≤s+2 by omega) (by omega),wr (by omega) (by omega)]
  show s+2+4=s+6
  omega
 ·cases h1:(leb 0 s&&leb s 1099511627776)
  ·rfl
  ·rw [Bool.and_eq_true,zjQ,zjQ]at h1; exact absurd h1 h
theorem yWp (s:Int):ys1 s=yr6 s:=yxE s
end
section
def yD2:Code:=(Tryz.f231.body).getD .skip
def yEG:Env:=zki TT [(116,yci)] []
theorem yKH:FrOk Tryz.prog ⟨yEG,17,fun _=>none⟩ yD2:=zkp yb yc ⟨yfR,trivial⟩
def yL6:Nat→Option Seg:=fun _=>none
abbrev yeJ:List Par:= [.rd tG,.rd tI]
abbrev yn6:List OT:= [⟨false,tI,.fz⟩]
def yjW (a0:dG) (a1:Int):Option (ResD yn6×MutD yeJ) :=
 let r1:=yR a0 a1
 bif (!r1) then
 some (((-1),()),())
 else
 bif (a0.1 !=0) then
 some (((IntKind.i64.wrap ((IntKind.i64.wrap (a0.1 - 1)) - (a1.tmod a0.1))),()),())
 else none
theorem ySs (x:InD yeJ):zjH ⟨yEG,17,yL6⟩ Tryz.f231.results.toList yD2 yeJ yn6 x=yjW x.1 x.2.1:=by kernel_rfl
theorem yNx:ConOk Tryz.prog 231 ⟨yeJ,yn6,fun x=>yjW x.1 x.2.1⟩:=zkh (yKH) Tryz.func231 (by kernel_rfl) (by kernel_rfl) Tryz.ntmps231.symm (by decide) (fun x r h=>(ySs x).trans h)
def yc0 (a0:dG) (a1:Int):Int:=yg a0 a1
theorem yQq (a0:dG) (a1:Int) (hk:zi9 yeJ (a0,a1,())):yjW a0 a1=(fun n=>some ((n,()),())) (yc0 a0 a1):=by
 unfold yjW yc0
 rw [yxR]
 cases hs:yL a0 a1
 ·unfold yg; rw [hs]; rfl
 ·have h1:=ydE.1 hs
  have h2:=ym.1 h1.1
  have h3:=yp1 hs
  have h4:yg a0 a1=a0.1 - 1 - a1.tmod a0.1:=by unfold yg; rw [hs]; rfl
  rw [show (a0.1 !=0)=true from bne_iff_ne.2 (by omega),wr (show -9223372036854775808≤a0.1 - 1 by omega) (by omega),wr (show -9223372036854775808≤a0.1 - 1 - a1.tmod a0.1 by omega) (by omega),h4]; rfl
def yrw:Con:=⟨yeJ,yn6,fun x=>(fun n=>some ((n,()),())) (yc0 x.1 x.2.1)⟩
theorem yDz:ConOk Tryz.prog 231 yrw:=(yNx).mono (fun x r hk h=>(yQq x.1 x.2.1 hk).trans h)
end
section
def yHU:Code:=(Tryz.f148.body).getD .skip
def yIj:Env:=zki TT [(116,yci),(126,yv),(231,yrw)] []
theorem yO2:FrOk Tryz.prog ⟨yIj,28,fun _=>none⟩ yHU:=zkp yb yc ⟨yfR,yP,yDz,trivial⟩
def yRJ:Nat→Option Seg:=fun _=>none
abbrev yhj:List Par:= [.rd tG,.rd tI,.rd tI]
abbrev yst:List OT:= [⟨false,tI,.fz⟩]
def yoG (a0:dG) (a1 a2:Int):Option (ResD yst×MutD yhj) :=
 let r1:=yR a0 a1
 bif (!(!r1)) then
 let r2:=ye a2 0 (IntKind.i64.wrap (a0.1 - 2))
 bif (!r2) then
 some (((-1),()),())
 else
 let r3:=yc0 a0 a1
 bif (a0.1 !=0) then
 some ((((IntKind.i64.wrap ((IntKind.i64.wrap (r3+1))+a2)).tmod a0.1),()),())
 else none
 else
 some (((-1),()),())
theorem yYz (x:InD yhj):zjH ⟨yIj,28,yRJ⟩ Tryz.f148.results.toList yHU yhj yst x=yoG x.1 x.2.1 x.2.2.1:=by kernel_rfl
theorem yT5:ConOk Tryz.prog 148 ⟨yhj,yst,fun x=>yoG x.1 x.2.1 x.2.2.1⟩:=zkh (yO2) Tryz.func148 (by kernel_rfl) (by kernel_rfl) Tryz.ntmps148.symm (by decide) (fun x r h=>(yYz x).trans h)
def ym3 (a0:dG) (a1 a2:Int):Int:=yex a0 a1 a2
theorem yWt (a0:dG) (a1 a2:Int) (hk:zi9 yhj (a0,a1,a2,())):yoG a0 a1 a2=(fun n=>some ((n,()),())) (ym3 a0 a1 a2):=by
 unfold yoG ym3 yex yc0
 rw [yxR]
 cases hs:yL a0 a1
 ·rfl
 ·have h1:=ydE.1 hs
  have h2:=ym.1 h1.1
  have h3:=yp1 hs
  rw [yaB,ye1,wr (show -9223372036854775808≤a0.1 - 2 by omega) (by omega)]
  cases hi:(leb 0 a2&&leb a2 (a0.1 - 2))
  ·rfl
  ·rw [Bool.and_eq_true,zjQ,zjQ]at hi
   rw [show (a0.1 !=0)=true from bne_iff_ne.2 (by omega)]
   show some (((IntKind.i64.wrap (IntKind.i64.wrap (yg a0 a1+1)+a2)).tmod a0.1,()),())=some (((yg a0 a1+1+a2).tmod a0.1,()),())
   rw [wr (show -9223372036854775808≤yg a0 a1+1 by omega) (by omega),wr (show -9223372036854775808≤yg a0 a1+1+a2 by omega) (by omega)]
def yE9:Con:=⟨yhj,yst,fun x=>(fun n=>some ((n,()),())) (ym3 x.1 x.2.1 x.2.2.1)⟩
theorem yXD:ConOk Tryz.prog 148 yE9:=(yT5).mono (fun x r hk h=>(yWt x.1 x.2.1 x.2.2.1 hk).trans h)
end
section
def yo3:Code:=(Tryz.f214.body).getD .skip
def yup:Env:=zki TT [] []
theorem ySU:FrOk Tryz.prog ⟨yup,17,fun _=>none⟩ yo3:=zkp yb yc trivial
def yF4:Nat→Option Seg:=fun _=>none
def ycK:Shape:=⟨[(3,false,[.int .i64]),(6,false,[.br tI]),(7,false,[.int .i64]),(8,false,[.int .i64])],[],[]⟩
def yik:Shape:=⟨[(3,false,[.ci .i64 0]),(6,false,[.br tI]),(7,false,[.int .i64]),(8,false,[.ci .i64 0])],[],[]⟩
def yh1:Shape:=⟨[(3,false,[.int .i64])],[],[]⟩
def yon:Shape:=⟨[],[],[]⟩
abbrev ytz (v0:Int) (v1:List Int) (v2 v3:Int):(ycK).X:=(((v0,()),(v1,()),(v2,()),(v3,()),()),(),())
abbrev yP7 (v0:List Int) (v1:Int):(yik).X:=((((),()),(v0,()),(v1,()),((),()),()),(),())
abbrev yDq (v0:Int):(yh1).X:=(((v0,()),()),(),())
def ytW (v0:Int) (v1:List Int) (v2 v3:Int):Option ((ycK).X ⊕ ((yh1).X ⊕ (yon).X)) :=
 bif (ltb v3 v2) then
 bif (inb v3 v1.length) then
 some (.inl ((((IntKind.i64.wrap ((BitVec.ofInt IntKind.i64.bits v0 ^^^ BitVec.ofInt IntKind.i64.bits (nth v1 v3 0)).toNat:Int)),()),(v1,()),(v2,()),((IntKind.i64.wrap (v3+1)),()),()),(),()))
 else none
 else
 some (.inr (.inl (((v0,()),()),(),())))
def ydl (x:(ycK).X):=ytW x.1.1.1 x.1.2.1.1 x.1.2.2.1.1 x.1.2.2.2.1.1
def yCS (x:(yik).X):(ycK).X:=(((0,()),(x.1.2.1.1,()),(x.1.2.2.1.1,()),(0,()),()),(),())
def yEW:Code:=(zdI yo3 64 116).getD .skip
theorem yR8:zdI yo3 64 29=some (.block 0 (.loop yEW)):=by kernel_rfl
theorem yU9 (x:(ycK).X):zg7 ⟨yup,17,yF4⟩ 0 yEW 116 ycK yh1 yon x=ydl x:=by kernel_rfl
def yDa (x:(yik).X):Nat:=18446744073709551616
def yuB (x:(yik).X):Option ((yh1).X ⊕ (yon).X):=zr ydl (yDa x) (yCS x)
def yDJ:Seg:=⟨yik,yh1,yon,yuB⟩
def yF5:Nat→Option Seg:=fun q=>bif Nat.beq q 29 then some yDJ else yF4 q
theorem ySV:FrOk Tryz.prog ⟨yup,17,yF5⟩ yo3:=(ySU).loop (sg:=yDJ) ycK yCS (by decide) yR8 ydl yDa (by decide) (fun _=>rfl) (fun x r _ h=>h) yU9
abbrev yks:List Par:= [.rd tL]
abbrev yuS:List OT:= [⟨false,tI,.fz⟩]
def yq4 (a0:List Int):Option (ResD yuS×MutD yks) :=
 zjw (yuB ((((),()),(a0,()),((a0.length:Int),()),((),()),()),(),())) (fun y0 =>
 some ((y0.1.1.1,()),())) (fun y0 =>
 none)
theorem y0u (x:InD yks):zjH ⟨yup,17,yF5⟩ Tryz.f214.results.toList yo3 yks yuS x=yq4 x.1:=by kernel_rfl
theorem yXa:ConOk Tryz.prog 214 ⟨yks,yuS,fun x=>yq4 x.1⟩:=zkh (ySV) Tryz.func214 (by kernel_rfl) (by kernel_rfl) Tryz.ntmps214.symm (by decide) (fun x r h=>(y0u x).trans h)
def yk0 (a0:List Int):Int:=ye7 a0
theorem yZi (a0:List Int) (hk:zi9 yks (a0,())):yq4 a0=(fun n=>some ((n,()),())) (yk0 a0):=by
 have hb:a0.length * 8≤2 ^ 47:=hk.1.1
 have h1:yuB (yP7 a0 a0.length)=some (.inl (yDq (ye7 a0))) :=
  zkk (step:=ydl) a0 0 (fun i s=>ytz s a0 a0.length i) xw (fun _ _=>True) (fun s=> .inl (yDq s)) (fun i s hi _=>⟨by
   simp only [ydl,ytz,ytW,zjI (show (i:Int) < a0.length by omega),cond_true,wr (show -9223372036854775808≤(i:Int)+1 by omega) (by omega),Int.natCast_add,Int.natCast_one,Int.toNat_natCast,zkO hi,zjW]; rfl,trivial⟩) (fun s _=>by simp only [ydl,ytz,ytW,zkm (Int.le_refl _),cond_false]) 0 trivial _ (by show _ < 18446744073709551616; omega)
 unfold yq4 yk0
 rw [h1]; rfl
def yGA:Con:=⟨yks,yuS,fun x=>(fun n=>some ((n,()),())) (yk0 x.1)⟩
theorem yZR:ConOk Tryz.prog 214 yGA:=(yXa).mono (fun x r hk h=>(yZi x.1 hk).trans h)
end
section
def yzJ:Code:=(Tryz.f241.body).getD .skip
def yz9:Env:=zki TT [(214,yGA)] []
theorem yHx:FrOk Tryz.prog ⟨yz9,5,fun _=>none⟩ yzJ:=zkp yb yc ⟨yZR,trivial⟩
def yIN:Nat→Option Seg:=fun _=>none
abbrev yfn:List Par:= [.rd tL]
abbrev yjA:List OT:= [⟨false,tI,.fz⟩]
def ynw (a0:List Int):Option (ResD yjA×MutD yfn) :=
 let r1:=yk0 a0
 some ((r1,()),())
theorem yMx (x:InD yfn):zjH ⟨yz9,5,yIN⟩ Tryz.f241.results.toList yzJ yfn yjA x=ynw x.1:=by kernel_rfl
theorem yJi:ConOk Tryz.prog 241 ⟨yfn,yjA,fun x=>ynw x.1⟩:=zkh (yHx) Tryz.func241 (by kernel_rfl) (by kernel_rfl) Tryz.ntmps241.symm (by decide) (fun x r h=>(yMx x).trans h)
def yjQ (a0:List Int):Int :=
 let r1:=yk0 a0
 r1
def ywo:Con:=⟨yfn,yjA,fun x=>(fun n=>some ((n,()),())) (yjQ x.1)⟩
theorem yLw (a0:List Int):ynw a0=(fun n=>some ((n,()),())) (yjQ a0):=zkS (p:=fun (n:Int)=>((n,()),())) rfl
theorem yLJ:ConOk Tryz.prog 241 ywo:=(yJi).mono (fun x r _ h=>(yLw x.1).trans h)
end
section
def yaK:Code:=(Tryz.f165.body).getD .skip
def ydO:Env:=zki TT [(47,yFa),(107,yiW),(108,yE8),(148,yE9),(231,yrw),(241,ywo)] []
theorem yIV:FrOk Tryz.prog ⟨ydO,70,fun _=>none⟩ yaK:=zkp yb yc ⟨yXE,yrH,yXC,yXD,yDz,yLJ,trivial⟩
def yxX:Nat→Option Seg:=fun _=>none
def yas:Shape:=⟨[(0,false,[.ptr 1000000000 0]),(1,false,[.int .i64]),(7,false,[.at 800000000]),(28,false,[.br tI]),(29,false,[.int .i64]),(30,false,[.int .i64])],[(1000000000,[.int .i64,.int .i64,.int .i64,.at 800000001,.int .i64,.int .i64,.int .i64,.int .i64,.int .i64,.at 800000002,.int .i64,.bool,.bool])],[(800000000,tI,.fz),(800000001,tM,(.pr (.ow (.ow .fz)) (.pr (.ow (.pr .fz (.ow .fz))) (.pr .fz (.ow .fz))))),(800000002,tW,(.pr .fz (.ow .fz)))]⟩
def ydL:Shape:=⟨[(0,false,[.ptr 1000000000 0]),(1,false,[.int .i64]),(7,false,[.at 800000000]),(28,false,[.br tI]),(29,false,[.int .i64]),(30,false,[.ci .i64 0])],[(1000000000,[.int .i64,.int .i64,.int .i64,.at 800000001,.int .i64,.int .i64,.int .i64,.int .i64,.int .i64,.at 800000002,.int .i64,.bool,.bool])],[(800000000,tI,.fz),(800000001,tM,(.pr (.ow (.ow .fz)) (.pr (.ow (.pr .fz (.ow .fz))) (.pr .fz (.ow .fz))))),(800000002,tW,(.pr .fz (.ow .fz)))]⟩
def ydJ:Shape:=⟨[(0,false,[.ptr 1000000000 0]),(1,false,[.int .i64]),(7,false,[.at 800000000])],[(1000000000,[.int .i64,.int .i64,.int .i64,.at 800000001,.int .i64,.int .i64,.int .i64,.int .i64,.int .i64,.at 800000002,.int .i64,.bool,.bool])],[(800000000,tI,.fz),(800000001,tM,(.pr (.ow (.ow .fz)) (.pr (.ow (.pr .fz (.ow .fz))) (.pr .fz (.ow .fz))))),(800000002,tW,(.pr .fz (.ow .fz)))]⟩
def yg6:Shape:=⟨[],[],[]⟩
abbrev ylY (v0:Int) (v1:List Int) (v2 v3:Int) (v4:dA) (v5:List Int):(yas).X:=((((),()),(v0,()),((),()),(v1,()),(v2,()),(v3,()),()),((v4.1,v4.2.1.1,v4.2.1.2,(),v4.2.2.2.1,v4.2.2.2.2.1,v4.2.2.2.2.2.1,v4.2.2.2.2.2.2.1,v4.2.2.2.2.2.2.2.1,(),v4.2.2.2.2.2.2.2.2.2.1,v4.2.2.2.2.2.2.2.2.2.2.1,v4.2.2.2.2.2.2.2.2.2.2.2,()),()),(v5,v4.2.2.1,v4.2.2.2.2.2.2.2.2.1,()))
abbrev yHE (v0:Int) (v1:List Int) (v2:Int) (v3:dA) (v4:List Int):(ydL).X:=((((),()),(v0,()),((),()),(v1,()),(v2,()),((),()),()),((v3.1,v3.2.1.1,v3.2.1.2,(),v3.2.2.2.1,v3.2.2.2.2.1,v3.2.2.2.2.2.1,v3.2.2.2.2.2.2.1,v3.2.2.2.2.2.2.2.1,(),v3.2.2.2.2.2.2.2.2.2.1,v3.2.2.2.2.2.2.2.2.2.2.1,v3.2.2.2.2.2.2.2.2.2.2.2,()),()),(v4,v3.2.2.1,v3.2.2.2.2.2.2.2.2.1,()))
abbrev yvH (v0:Int) (v1:dA) (v2:List Int):(ydJ).X:=((((),()),(v0,()),((),()),()),((v1.1,v1.2.1.1,v1.2.1.2,(),v1.2.2.2.1,v1.2.2.2.2.1,v1.2.2.2.2.2.1,v1.2.2.2.2.2.2.1,v1.2.2.2.2.2.2.2.1,(),v1.2.2.2.2.2.2.2.2.2.1,v1.2.2.2.2.2.2.2.2.2.2.1,v1.2.2.2.2.2.2.2.2.2.2.2,()),()),(v2,v1.2.2.1,v1.2.2.2.2.2.2.2.2.1,()))
def yml (v0:Int) (v1:List Int) (v2 v3 v4 v5 v6 v7 v8 v9 v10 v11 v12:Int) (v13 v14:Bool) (v15:List Int) (v16:List dM) (v17:List dW):Option ((yas).X ⊕ ((ydJ).X ⊕ (yg6).X)) :=
 bif (ltb v3 v2) then
 bif (inb v3 v1.length) then
 let r5:=ym3 (v5,v6) v0 v3
 bif (inb r5 v15.length) then
 some (.inl ((((),()),(v0,()),((),()),(v1,()),(v2,()),((IntKind.i64.wrap (v3+1)),()),()),((v4,v5,v6,(),v7,v8,v9,v10,v11,(),v12,v13,v14,()),()),((v15.set (r5).toNat (nth v1 v3 0)),v16,v17,())))
 else none
 else none
 else
 some (.inr (.inl ((((),()),(v0,()),((),()),()),((v4,v5,v6,(),v7,v8,v9,v10,v11,(),v12,v13,v14,()),()),(v15,v16,v17,()))))
def yaG (x:(yas).X):=yml x.1.2.1.1 x.1.2.2.2.1.1 x.1.2.2.2.2.1.1 x.1.2.2.2.2.2.1.1 x.2.1.1.1 x.2.1.1.2.1 x.2.1.1.2.2.1 x.2.1.1.2.2.2.2.1 x.2.1.1.2.2.2.2.2.1 x.2.1.1.2.2.2.2.2.2.1 x.2.1.1.2.2.2.2.2.2.2.1 x.2.1.1.2.2.2.2.2.2.2.2.1 x.2.1.1.2.2.2.2.2.2.2.2.2.2.1 x.2.1.1.2.2.2.2.2.2.2.2.2.2.2.1 x.2.1.1.2.2.2.2.2.2.2.2.2.2.2.2.1 x.2.2.1 x.2.2.2.1 x.2.2.2.2.1
def yvv (x:(ydL).X):(yas).X:=((((),()),(x.1.2.1.1,()),((),()),(x.1.2.2.2.1.1,()),(x.1.2.2.2.2.1.1,()),(0,()),()),((x.2.1.1.1,x.2.1.1.2.1,x.2.1.1.2.2.1,(),x.2.1.1.2.2.2.2.1,x.2.1.1.2.2.2.2.2.1,x.2.1.1.2.2.2.2.2.2.1,x.2.1.1.2.2.2.2.2.2.2.1,x.2.1.1.2.2.2.2.2.2.2.2.1,(),x.2.1.1.2.2.2.2.2.2.2.2.2.2.1,x.2.1.1.2.2.2.2.2.2.2.2.2.2.2.1,x.2.1.1.2.2.2.2.2.2.2.2.2.2.2.2.1,()),()),(x.2.2.1,x.2.2.2.1,x.2.2.2.2.1,()))
def ywi:Code:=(zdI yaK 64 244).getD .skip
theorem yIQ:zdI yaK 64 61=some (.block 0 (.loop ywi)):=by kernel_rfl
theorem yJp (x:(yas).X):zg7 ⟨ydO,70,yxX⟩ 0 ywi 244 yas ydJ yg6 x=yaG x:=by kernel_rfl
def yvz (x:(ydL).X):Nat:=18446744073709551616
def yni (x:(ydL).X):Option ((ydJ).X ⊕ (yg6).X):=zr yaG (yvz x) (yvv x)
def ywa:Seg:=⟨ydL,ydJ,yg6,yni⟩
def ypb:Nat→Option Seg:=fun q=>bif Nat.beq q 61 then some ywa else yxX q
theorem yIW:FrOk Tryz.prog ⟨ydO,70,ypb⟩ yaK:=(yIV).loop (sg:=ywa) yas yvv (by decide) yIQ yaG yvz (by decide) (fun _=>rfl) (fun x r _ h=>h) yJp
def yaf:Shape:=⟨[(0,false,[.ptr 1000000000 0]),(1,false,[.int .i64]),(46,false,[.at 800000000]),(47,false,[.int .i64]),(48,false,[.int .i64])],[(1000000000,[.int .i64,.int .i64,.int .i64,.at 800000001,.int .i64,.int .i64,.int .i64,.int .i64,.int .i64,.at 800000002,.int .i64,.bool,.bool])],[(800000000,tI,.fz),(800000001,tM,(.pr (.ow (.ow .fz)) (.pr (.ow (.pr .fz (.ow .fz))) (.pr .fz (.ow .fz))))),(800000002,tW,(.pr .fz (.ow .fz)))]⟩
def ycW:Shape:=⟨[(0,false,[.ptr 1000000000 0]),(1,false,[.int .i64]),(46,false,[.at 800000000]),(47,false,[.int .i64]),(48,false,[.ci .i64 0])],[(1000000000,[.int .i64,.int .i64,.int .i64,.at 800000001,.int .i64,.int .i64,.int .i64,.int .i64,.int .i64,.at 800000002,.int .i64,.bool,.bool])],[(800000000,tI,.fz),(800000001,tM,(.pr (.ow (.ow .fz)) (.pr (.ow (.pr .fz (.ow .fz))) (.pr .fz (.ow .fz))))),(800000002,tW,(.pr .fz (.ow .fz)))]⟩
def ycU:Shape:=⟨[],[(1000000000,[.int .i64,.int .i64,.int .i64,.at 800000000,.int .i64,.int .i64,.int .i64,.int .i64,.int .i64,.at 800000001,.int .i64,.bool,.bool])],[(800000000,tM,(.pr (.ow (.ow .fz)) (.pr (.ow (.pr .fz (.ow .fz))) (.pr .fz (.ow .fz))))),(800000001,tW,(.pr .fz (.ow .fz)))]⟩
def ycY:Shape:=⟨[(6,false,[.bool])],[(1000000000,[.int .i64,.int .i64,.int .i64,.at 800000000,.int .i64,.int .i64,.int .i64,.int .i64,.int .i64,.at 800000001,.int .i64,.bool,.bool])],[(800000000,tM,(.pr (.ow (.ow .fz)) (.pr (.ow (.pr .fz (.ow .fz))) (.pr .fz (.ow .fz))))),(800000001,tW,(.pr .fz (.ow .fz)))]⟩
abbrev ykV (v0 v1 v2:Int) (v3:dA) (v4:List Int):(yaf).X:=((((),()),(v0,()),((),()),(v1,()),(v2,()),()),((v3.1,v3.2.1.1,v3.2.1.2,(),v3.2.2.2.1,v3.2.2.2.2.1,v3.2.2.2.2.2.1,v3.2.2.2.2.2.2.1,v3.2.2.2.2.2.2.2.1,(),v3.2.2.2.2.2.2.2.2.2.1,v3.2.2.2.2.2.2.2.2.2.2.1,v3.2.2.2.2.2.2.2.2.2.2.2,()),()),(v4,v3.2.2.1,v3.2.2.2.2.2.2.2.2.1,()))
abbrev yHa (v0 v1:Int) (v2:dA) (v3:List Int):(ycW).X:=((((),()),(v0,()),((),()),(v1,()),((),()),()),((v2.1,v2.2.1.1,v2.2.1.2,(),v2.2.2.2.1,v2.2.2.2.2.1,v2.2.2.2.2.2.1,v2.2.2.2.2.2.2.1,v2.2.2.2.2.2.2.2.1,(),v2.2.2.2.2.2.2.2.2.2.1,v2.2.2.2.2.2.2.2.2.2.2.1,v2.2.2.2.2.2.2.2.2.2.2.2,()),()),(v3,v2.2.2.1,v2.2.2.2.2.2.2.2.2.1,()))
abbrev ykX (v0:dA):(ycU).X:=((),((v0.1,v0.2.1.1,v0.2.1.2,(),v0.2.2.2.1,v0.2.2.2.2.1,v0.2.2.2.2.2.1,v0.2.2.2.2.2.2.1,v0.2.2.2.2.2.2.2.1,(),v0.2.2.2.2.2.2.2.2.2.1,v0.2.2.2.2.2.2.2.2.2.2.1,v0.2.2.2.2.2.2.2.2.2.2.2,()),()),(v0.2.2.1,v0.2.2.2.2.2.2.2.2.1,()))
abbrev ykZ (v0:Bool) (v1:dA):(ycY).X:=(((v0,()),()),((v1.1,v1.2.1.1,v1.2.1.2,(),v1.2.2.2.1,v1.2.2.2.2.1,v1.2.2.2.2.2.1,v1.2.2.2.2.2.2.1,v1.2.2.2.2.2.2.2.1,(),v1.2.2.2.2.2.2.2.2.2.1,v1.2.2.2.2.2.2.2.2.2.2.1,v1.2.2.2.2.2.2.2.2.2.2.2,()),()),(v1.2.2.1,v1.2.2.2.2.2.2.2.2.1,()))
def yle (v0 v1 v2 v3 v4 v5 v6 v7 v8 v9 v10 v11:Int) (v12 v13:Bool) (v14:List Int) (v15:List dM) (v16:List dW):Option ((yaf).X ⊕ ((ycU).X ⊕ (ycY).X)) :=
 bif (ltb v2 v1) then
 bif (inb v2 v14.length) then
 let r10:=ym4 (v3,(v4,v5),v15,v6,v7,v8,v9,v10,v16,v11,v12,v13) v2 v0
 bif r10 then
 let r11:=ys1 v0
 bnd (yd9 (v3,(v4,v5),v15,v6,v7,v8,v9,v10,v16,v11,v12,v13) v2 r11 ([(nth v14 v2 0)]:List Int)) fun r12 =>
 bif (!r12.1.1) then
 some (.inr (.inr (((false,()),()),((r12.2.1.1,r12.2.1.2.1.1,r12.2.1.2.1.2,(),r12.2.1.2.2.2.1,r12.2.1.2.2.2.2.1,r12.2.1.2.2.2.2.2.1,r12.2.1.2.2.2.2.2.2.1,r12.2.1.2.2.2.2.2.2.2.1,(),r12.2.1.2.2.2.2.2.2.2.2.2.1,r12.2.1.2.2.2.2.2.2.2.2.2.2.1,r12.2.1.2.2.2.2.2.2.2.2.2.2.2,()),()),(r12.2.1.2.2.1,r12.2.1.2.2.2.2.2.2.2.2.1,()))))
 else
 some (.inl ((((),()),(v0,()),((),()),(v1,()),((IntKind.i64.wrap (v2+1)),()),()),((r12.2.1.1,r12.2.1.2.1.1,r12.2.1.2.1.2,(),r12.2.1.2.2.2.1,r12.2.1.2.2.2.2.1,r12.2.1.2.2.2.2.2.1,r12.2.1.2.2.2.2.2.2.1,r12.2.1.2.2.2.2.2.2.2.1,(),r12.2.1.2.2.2.2.2.2.2.2.2.1,r12.2.1.2.2.2.2.2.2.2.2.2.2.1,r12.2.1.2.2.2.2.2.2.2.2.2.2.2,()),()),(v14,r12.2.1.2.2.1,r12.2.1.2.2.2.2.2.2.2.2.1,())))
 else
 some (.inl ((((),()),(v0,()),((),()),(v1,()),((IntKind.i64.wrap (v2+1)),()),()),((v3,v4,v5,(),v6,v7,v8,v9,v10,(),v11,v12,v13,()),()),(v14,v15,v16,())))
 else none
 else
 some (.inr (.inl ((),((v3,v4,v5,(),v6,v7,v8,v9,v10,(),v11,v12,v13,()),()),(v15,v16,()))))
def yaq (x:(yaf).X):=yle x.1.2.1.1 x.1.2.2.2.1.1 x.1.2.2.2.2.1.1 x.2.1.1.1 x.2.1.1.2.1 x.2.1.1.2.2.1 x.2.1.1.2.2.2.2.1 x.2.1.1.2.2.2.2.2.1 x.2.1.1.2.2.2.2.2.2.1 x.2.1.1.2.2.2.2.2.2.2.1 x.2.1.1.2.2.2.2.2.2.2.2.1 x.2.1.1.2.2.2.2.2.2.2.2.2.2.1 x.2.1.1.2.2.2.2.2.2.2.2.2.2.2.1 x.2.1.1.2.2.2.2.2.2.2.2.2.2.2.2.1 x.2.2.1 x.2.2.2.1 x.2.2.2.2.1
def yud (x:(ycW).X):(yaf).X:=((((),()),(x.1.2.1.1,()),((),()),(x.1.2.2.2.1.1,()),(0,()),()),((x.2.1.1.1,x.2.1.1.2.1,x.2.1.1.2.2.1,(),x.2.1.1.2.2.2.2.1,x.2.1.1.2.2.2.2.2.1,x.2.1.1.2.2.2.2.2.2.1,x.2.1.1.2.2.2.2.2.2.2.1,x.2.1.1.2.2.2.2.2.2.2.2.1,(),x.2.1.1.2.2.2.2.2.2.2.2.2.2.1,x.2.1.1.2.2.2.2.2.2.2.2.2.2.2.1,x.2.1.1.2.2.2.2.2.2.2.2.2.2.2.2.1,()),()),(x.2.2.1,x.2.2.2.1,x.2.2.2.2.1,()))
def yvj:Code:=(zdI yaK 64 500).getD .skip
theorem yHp:zdI yaK 64 125=some (.block 2 (.loop yvj)):=by kernel_rfl
theorem yHP (x:(yaf).X):zg7 ⟨ydO,70,ypb⟩ 2 yvj 500 yaf ycU ycY x=yaq x:=by kernel_rfl
def yuf (x:(ycW).X):Nat:=18446744073709551616
def ylm (x:(ycW).X):Option ((ycU).X ⊕ (ycY).X):=zr yaq (yuf x) (yud x)
def yuj:Seg:=⟨ycW,ycU,ycY,ylm⟩
def yxY:Nat→Option Seg:=fun q=>bif Nat.beq q 125 then some yuj else ypb q
theorem yIX:FrOk Tryz.prog ⟨ydO,70,yxY⟩ yaK:=(yIW).loop (sg:=yuj) yaf yud (by decide) yHp yaq yuf (by decide) (fun _=>rfl) (fun x r _ h=>h) yHP
abbrev ybT:List Par:= [.pt tA (.pr .fz (.pr (.pr .fz .fz) (.pr (.ow (.pr (.ow (.ow .fz)) (.pr (.ow (.pr .fz (.ow .fz))) (.pr .fz (.ow .fz))))) (.pr .fz (.pr .fz (.pr .fz (.pr .fz (.pr .fz (.pr (.ow (.pr .fz (.ow .fz))) (.pr .fz (.pr .fz .fz))))))))))),.rd tI,.rd tL]
abbrev ygF:List OT:= [⟨false,tB,.fz⟩]
def yjd (a0:dA) (a1:Int) (a2:List Int):Option (ResD ygF×MutD ybT) :=
 bif (zkc a0.2.1.1 8) then
 let r1:=yc0 a0.2.1 a1
 let r2:=yjQ a2
 bif (inb r1 (List.replicate (a0.2.1.1).toNat (0:Int)).length) then
 let r3:=((List.replicate (a0.2.1.1).toNat (0:Int)).set (r1).toNat r2)
 zjw (yni ((((),()),(a1,()),((),()),(a2,()),((a2.length:Int),()),((),()),()),((a0.1,a0.2.1.1,a0.2.1.2,(),a0.2.2.2.1,a0.2.2.2.2.1,a0.2.2.2.2.2.1,a0.2.2.2.2.2.2.1,a0.2.2.2.2.2.2.2.1,(),a0.2.2.2.2.2.2.2.2.2.1,a0.2.2.2.2.2.2.2.2.2.2.1,a0.2.2.2.2.2.2.2.2.2.2.2,()),()),(r3,a0.2.2.1,a0.2.2.2.2.2.2.2.2.1,()))) (fun y5 =>
 zjw (ylm ((((),()),(y5.1.2.1.1,()),((),()),((y5.2.2.1.length:Int),()),((),()),()),((y5.2.1.1.1,y5.2.1.1.2.1,y5.2.1.1.2.2.1,(),y5.2.1.1.2.2.2.2.1,y5.2.1.1.2.2.2.2.2.1,y5.2.1.1.2.2.2.2.2.2.1,y5.2.1.1.2.2.2.2.2.2.2.1,y5.2.1.1.2.2.2.2.2.2.2.2.1,(),y5.2.1.1.2.2.2.2.2.2.2.2.2.2.1,y5.2.1.1.2.2.2.2.2.2.2.2.2.2.2.1,y5.2.1.1.2.2.2.2.2.2.2.2.2.2.2.2.1,()),()),(y5.2.2.1,y5.2.2.2.1,y5.2.2.2.2.1,()))) (fun y12 =>
 some ((true,()),((y12.2.1.1.1,(y12.2.1.1.2.1,y12.2.1.1.2.2.1),y12.2.2.1,y12.2.1.1.2.2.2.2.1,y12.2.1.1.2.2.2.2.2.1,y12.2.1.1.2.2.2.2.2.2.1,y12.2.1.1.2.2.2.2.2.2.2.1,y12.2.1.1.2.2.2.2.2.2.2.2.1,y12.2.2.2.1,y12.2.1.1.2.2.2.2.2.2.2.2.2.2.1,y12.2.1.1.2.2.2.2.2.2.2.2.2.2.2.1,y12.2.1.1.2.2.2.2.2.2.2.2.2.2.2.2.1),()))) (fun y12 =>
 some ((y12.1.1.1,()),((y12.2.1.1.1,(y12.2.1.1.2.1,y12.2.1.1.2.2.1),y12.2.2.1,y12.2.1.1.2.2.2.2.1,y12.2.1.1.2.2.2.2.2.1,y12.2.1.1.2.2.2.2.2.2.1,y12.2.1.1.2.2.2.2.2.2.2.1,y12.2.1.1.2.2.2.2.2.2.2.2.1,y12.2.2.2.1,y12.2.1.1.2.2.2.2.2.2.2.2.2.2.1,y12.2.1.1.2.2.2.2.2.2.2.2.2.2.2.1,y12.2.1.1.2.2.2.2.2.2.2.2.2.2.2.2.1),())))) (fun y5 =>
 none)
 else none
 else none
theorem yOT (x:InD ybT):zjH ⟨ydO,70,yxY⟩ Tryz.f165.results.toList yaK ybT ygF x=yjd x.1 x.2.1 x.2.2.1:=by kernel_rfl
theorem yLA:ConOk Tryz.prog 165 ⟨ybT,ygF,fun x=>yjd x.1 x.2.1 x.2.2.1⟩:=zkh (yIX) Tryz.func165 (by kernel_rfl) (by kernel_rfl) Tryz.ntmps165.symm (by decide) (fun x r h=>(yOT x).trans h)
def yl0 (a0:dA) (a1:Int) (a2:List Int):Bool×dA:=(!(yd (yI a0 a1 a2)),yI a0 a1 a2)
def ygV (a0:dA) (a1:Int) (a2:List Int):Bool:= !(yd a0)&&(yL a0.2.1 a1&&((a2.length:Int)==a0.2.1.1 - 1&&(a0.2.2.1.length:Int)==a0.2.1.1))
theorem yNo (a0:dA) (a1:Int) (a2:List Int) (hk:zi9 ybT (a0,a1,a2,())) (hq:ygV a0 a1 a2=true):yjd a0 a1 a2=(fun n=>some ((n.1,()),(n.2,()))) (yl0 a0 a1 a2):=by
 simp only [ygV,Bool.and_eq_true,beq_iff_eq,Bool.not_eq_true'] at hq
 obtain ⟨hd0,hs0,hl0,hm0⟩:=hq
 have hg:=ym.1 (ydE.1 hs0).1
 have hp:=yp1 hs0
 have hL:=y16 (N:=a0.2.1.1) (p:=yg a0.2.1 a1) (x:=ye7 a2) (data:=a2) ⟨by omega,by omega⟩ hp hl0
 generalize hw:(List.range a0.2.1.1.toNat).map (fun (i:Nat)=>yxP (yg a0.2.1 a1) a0.2.1.1 (ye7 a2) a2 i)=W at hL
 have hWl:W.length=a0.2.2.1.length:=by rw [← hw,List.length_map,List.length_range]; omega
 have hWat: ∀ i:Nat,i < a0.2.2.1.length→nth W i 0=yxP (yg a0.2.1 a1) a0.2.1.1 (ye7 a2) a2 i:=fun i hi=>by
  rw [← hw,zjW,zcq (by rw [List.length_map,List.length_range]; omega)]; simp
 have h1:yni (yHE a1 a2 a2.length a0 ((List.replicate a0.2.1.1.toNat 0).set (yg a0.2.1 a1).toNat (ye7 a2)))=some (.inl (yvH a1 a0 W)):=by
  have:=zks (step:=yaG) a2.length (fun i s=>ylY a1 a2 a2.length i a0 s) (fun l (i:Nat)=>l.set ((yg a0.2.1 a1+1+i).tmod a0.2.1.1).toNat (nth a2 i 0)) (fun _ s=>s.length=a0.2.1.1.toNat) (fun s=> .inl (yvH a1 a0 s)) (fun i s hi hs=>⟨by
   have hd:=y1H hs0 (show (0:Int)≤i by omega) (show (i:Int)≤a0.2.1.1 - 2 by omega)
   have he:yex a0.2.1 a1 i=(yg a0.2.1 a1+1+i).tmod a0.2.1.1:=by unfold yex; rw [hs0,zk0 (show (0:Int)≤i by omega),zk0 (show (i:Int)≤a0.2.1.1 - 2 by omega)]; rfl
   simp only [yaG,ylY,yml,zjI (show (i:Int) < a2.length by omega),cond_true,wr (show -9223372036854775808≤(i:Int)+1 by omega) (by omega),Int.natCast_add,Int.natCast_one,Int.toNat_natCast,zkO hi,zkV,ym3,zjP.2 (show 0≤yex a0.2.1 a1 i∧yex a0.2.1 a1 i < s.length by omega)]
   rw [he],by rw [List.length_set]; exact hs⟩) (fun s hs=>by simp only [yaG,ylY,yml,zkm (Int.le_refl _),cond_false]) ((List.replicate a0.2.1.1.toNat 0).set (yg a0.2.1 a1).toNat (ye7 a2)) (by rw [List.length_set,List.length_replicate]) 18446744073709551616 (by omega)
  rw [hL]at this
  exact this
 have h2:ylm (yHa a1 W.length a0 W)=some (bif yd (yI a0 a1 a2) then .inr (ykZ false (yI a0 a1 a2)) else .inl (ykX (yI a0 a1 a2))):=by
  have:=zkr (step:=yaq) a0.2.2.1.length (fun i s=>ykV a1 W.length i s W) (fun i s=>bif yd (yd6 (yg a0.2.1 a1) a0.2.1.1 a1 a2 s i) then (.inr (yd6 (yg a0.2.1 a1) a0.2.1.1 a1 a2 s i):dA ⊕ dA) else .inl (yd6 (yg a0.2.1 a1) a0.2.1.1 a1 a2 s i)) (fun _ s=>s.2.2.1.length=a0.2.2.1.length∧yd s=false) id
   (fun b=>bif yd b then .inr (ykZ false b) else .inl (ykX b)) (fun i s hi hs=>by
    constructor
    ·simp only [yaq,ykV,yle,zjI (show (i:Int) < W.length by omega),cond_true,wr (show -9223372036854775808≤(i:Int)+1 by omega) (by omega),Int.natCast_add,Int.natCast_one,Int.toNat_natCast,zkO (show i < W.length by omega),zkV,ym4,yWp,hWat i hi,yd6]
     rw [yrI s i (yr6 a1) [yxP (yg a0.2.1 a1) a0.2.1.1 (ye7 a2) a2 i] (by unfold yb4; rw [zkO (by rw [hs.1]; exact hi),hs.2]; rfl)]
     cases hlv:yfN s i a1
     ·simp only [cond_false,hs.2]
     ·simp only [zky,yb2,cond_true]
      cases hd:yd (yeF s i (yr6 a1) [yxP (yg a0.2.1 a1) a0.2.1.1 (ye7 a2) a2 i])
      ·rfl
      ·simp only [hd,Bool.not_true,Bool.not_false,cond_true,ykZ]
    ·intro s' h
     cases hd:yd (yd6 (yg a0.2.1 a1) a0.2.1.1 a1 a2 s i)
     ·rw [hd]at h
      cases h
      exact ⟨(yxO _ _ _ _ s i).trans hs.1,hd⟩
     ·rw [hd]at h; cases h) (fun s hs=>by simp only [yaq,ykV,yle,hs.2,hWl,zkm (Int.le_refl _),cond_false,id,ykX]) a0 ⟨rfl,hd0⟩ 18446744073709551616 (by omega)
  rw [yDm (fun a i h=>y0o _ _ _ _ i h),← List.range_eq_range'] at this
  exact this
 unfold yjd yl0 yc0 yjQ yk0
 rw [zkH.2 (show 0≤a0.2.1.1∧a0.2.1.1 * ((8:Nat):Int)≤140737488355328 by omega)]
 simp only [cond_true]
 rw [zjP.2 (show 0≤yg a0.2.1 a1∧yg a0.2.1 a1 < ((List.replicate a0.2.1.1.toNat (0:Int)).length:Int) by rw [List.length_replicate]; omega),cond_true]
 refine (congrArg (fun z=>zjw z _ _) h1).trans ?_
 rw [zkJ]
 refine (congrArg (fun z=>zjw z _ _) h2).trans ?_
 cases hd:yd (yI a0 a1 a2)
 ·rfl
 ·simp only [cond_true,zkK,zkV]; rfl
def yb3 (a0:dA) (a1:Int) (a2:List Int):Option (ResD ygF×MutD ybT):=bif ygV a0 a1 a2 then (fun n=>some ((n.1,()),(n.2,()))) (yl0 a0 a1 a2) else none
theorem yNV (a0:dA) (a1:Int) (a2:List Int) (h:ygV a0 a1 a2=true):yb3 a0 a1 a2=(fun n=>some ((n.1,()),(n.2,()))) (yl0 a0 a1 a2):=by unfold yb3; rw [h]; rfl
def yym:Con:=⟨ybT,ygF,fun x=>yb3 x.1 x.2.1 x.2.2.1⟩
theorem yNQ:ConOk Tryz.prog 165 yym:=(yLA).mono (fun x r hk h=>zkW h (fun hq=>yNo x.1 x.2.1 x.2.2.1 hk hq))
end
end
end Go.Tf
