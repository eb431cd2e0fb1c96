/- Functions of the program, and what they come to. -/
import Derived.Test.YtgmadfpnljibhaaGreatExactFlushAllF9
namespace Go.Tf
noncomputable section
open Go.Proofs
set_option synthInstance.maxHeartbeats 400000
set_option synthInstance.maxSize 10000
set_option linter.unusedVariables false
set_option linter.unusedSimpArgs false
set_option maxRecDepth 100000
section
def yJl:Code:=(Tryz.f141.body).getD .skip
def yJK:Env:=zki TT [(135,yn)] []
theorem yQW:FrOk Tryz.prog ⟨yJK,9,fun _=>none⟩ yJl:=zkp yb yc ⟨yr,trivial⟩
def yTr:Nat→Option Seg:=fun _=>none
abbrev yng:List Par:= [.rd tI]
abbrev ytp:List OT:= [⟨false,tI,.fz⟩]
def ywR (a0:Int):Option (ResD ytp×MutD yng) :=
 let r1:=ya a0 0 1099511627776
 bif (!r1) then
 some (((-1),()),())
 else
 some (((IntKind.i64.wrap ((IntKind.i64.wrap (a0+2))+4)),()),())
theorem y0y (x:InD yng):zjH ⟨yJK,9,yTr⟩ Tryz.f141.results.toList yJl yng ytp x=ywR x.1:=by kernel_rfl
theorem yV6:ConOk Tryz.prog 141 ⟨yng,ytp,fun x=>ywR x.1⟩:=zkh (yQW) Tryz.func141 (by kernel_rfl) (by kernel_rfl) Tryz.ntmps141.symm (by decide) (fun x r h=>(y0y x).trans h)
def yfx (a0:Int):Int :=
 let r1:=ya a0 0 1099511627776
 bif (!r1) then
 (-1)
 else
 (IntKind.i64.wrap ((IntKind.i64.wrap (a0+2))+4))
def yv8:Con:=⟨yng,ytp,fun x=>(fun n=>some ((n,()),())) (yfx x.1)⟩
theorem yYs (a0:Int):ywR a0=(fun n=>some ((n,()),())) (yfx a0):=zkS (p:=fun (n:Int)=>((n,()),())) (zkx (p:=fun (n:Int)=>((n,()),())) rfl rfl)
theorem yIt:ConOk Tryz.prog 141 yv8:=(yV6).mono (fun x r _ h=>(yYs x.1).trans h)
theorem yyz (s:Int):yfx s=ysI s:=by
 unfold yfx ysI
 rw [yff]
 by_cases h:0≤s∧s≤1099511627776
 ·rw [zk0 h.1,zk0 h.2,wr (show -9223372036854775808≤s+2 by omega) (by omega),wr (by omega) (by omega)]
  show s+2+4=s+6
  omega
 ·cases h1:(leb 0 s&&leb s 1099511627776)
  ·rfl
  ·rw [Bool.and_eq_true,zjQ,zjQ]at h1; exact absurd h1 h
theorem yX4 (s:Int):ytD s=ysI s:=yyz s
end
section
def yE5:Code:=(Tryz.f231.body).getD .skip
def yFK:Env:=zki TT [(116,yct)] []
theorem yL2:FrOk Tryz.prog ⟨yFK,17,fun _=>none⟩ yE5:=zkp yb yc ⟨yf7,trivial⟩
def yNu:Nat→Option Seg:=fun _=>none
abbrev yeW:List Par:= [.rd tG,.rd tI]
abbrev yoB:List OT:= [⟨false,tI,.fz⟩]
def ykh (a0:dG) (a1:Int):Option (ResD yoB×MutD yeW) :=
 let r1:=yS a0 a1
 bif (!r1) then
 some (((-1),()),())
 else
 bif (a0.1 !=0) then
 some (((IntKind.i64.wrap ((IntKind.i64.wrap (a0.1 - 1)) - (a1.tmod a0.1))),()),())
 else none
theorem yTZ (x:InD yeW):zjH ⟨yFK,17,yNu⟩ Tryz.f231.results.toList yE5 yeW yoB x=ykh x.1 x.2.1:=by kernel_rfl
theorem yOX:ConOk Tryz.prog 231 ⟨yeW,yoB,fun x=>ykh x.1 x.2.1⟩:=zkh (yL2) Tryz.func231 (by kernel_rfl) (by kernel_rfl) Tryz.ntmps231.symm (by decide) (fun x r h=>(yTZ x).trans h)
def ydb (a0:dG) (a1:Int):Int:=yg a0 a1
theorem yRT (a0:dG) (a1:Int) (hk:zi9 yeW (a0,a1,())):ykh a0 a1=(fun n=>some ((n,()),())) (ydb a0 a1):=by
 unfold ykh ydb
 rw [yyM]
 cases hs:yK a0 a1
 ·unfold yg; rw [hs]; rfl
 ·have h1:=ycv.1 hs
  have h2:=yo.1 h1.1
  have h3:=yqA hs
  have h4:yg a0 a1=a0.1 - 1 - a1.tmod a0.1:=by unfold yg; rw [hs]; rfl
  rw [show (a0.1 !=0)=true from bne_iff_ne.2 (by omega),wr (show -9223372036854775808≤a0.1 - 1 by omega) (by omega),wr (show -9223372036854775808≤a0.1 - 1 - a1.tmod a0.1 by omega) (by omega),h4]; rfl
def yr6:Con:=⟨yeW,yoB,fun x=>(fun n=>some ((n,()),())) (ydb x.1 x.2.1)⟩
theorem yEz:ConOk Tryz.prog 231 yr6:=(yOX).mono (fun x r hk h=>(yRT x.1 x.2.1 hk).trans h)
end
section
def yI9:Code:=(Tryz.f148.body).getD .skip
def yJy:Env:=zki TT [(116,yct),(126,yw),(231,yr6)] []
theorem yQu:FrOk Tryz.prog ⟨yJy,28,fun _=>none⟩ yI9:=zkp yb yc ⟨yf7,yQ,yEz,trivial⟩
def yTf:Nat→Option Seg:=fun _=>none
abbrev yhz:List Par:= [.rd tG,.rd tI,.rd tI]
abbrev ys5:List OT:= [⟨false,tI,.fz⟩]
def ypd (a0:dG) (a1 a2:Int):Option (ResD ys5×MutD yhz) :=
 let r1:=yS a0 a1
 bif (!(!r1)) then
 let r2:=ye a2 0 (IntKind.i64.wrap (a0.1 - 2))
 bif (!r2) then
 some (((-1),()),())
 else
 let r3:=ydb a0 a1
 bif (a0.1 !=0) then
 some ((((IntKind.i64.wrap ((IntKind.i64.wrap (r3+1))+a2)).tmod a0.1),()),())
 else none
 else
 some (((-1),()),())
theorem y0e (x:InD yhz):zjH ⟨yJy,28,yTf⟩ Tryz.f148.results.toList yI9 yhz ys5 x=ypd x.1 x.2.1 x.2.2.1:=by kernel_rfl
theorem yVM:ConOk Tryz.prog 148 ⟨yhz,ys5,fun x=>ypd x.1 x.2.1 x.2.2.1⟩:=zkh (yQu) Tryz.func148 (by kernel_rfl) (by kernel_rfl) Tryz.ntmps148.symm (by decide) (fun x r h=>(y0e x).trans h)
def ynw (a0:dG) (a1 a2:Int):Int:=yeK a0 a1 a2
theorem yX8 (a0:dG) (a1 a2:Int) (hk:zi9 yhz (a0,a1,a2,())):ypd a0 a1 a2=(fun n=>some ((n,()),())) (ynw a0 a1 a2):=by
 unfold ypd ynw yeK ydb
 rw [yyM]
 cases hs:yK a0 a1
 ·rfl
 ·have h1:=ycv.1 hs
  have h2:=yo.1 h1.1
  have h3:=yqA hs
  rw [yaH,yff,wr (show -9223372036854775808≤a0.1 - 2 by omega) (by omega)]
  cases hi:(leb 0 a2&&leb a2 (a0.1 - 2))
  ·rfl
  ·rw [Bool.and_eq_true,zjQ,zjQ]at hi
   rw [show (a0.1 !=0)=true from bne_iff_ne.2 (by omega)]
   show some (((IntKind.i64.wrap (IntKind.i64.wrap (yg a0 a1+1)+a2)).tmod a0.1,()),())=some (((yg a0 a1+1+a2).tmod a0.1,()),())
   rw [wr (show -9223372036854775808≤yg a0 a1+1 by omega) (by omega),wr (show -9223372036854775808≤yg a0 a1+1+a2 by omega) (by omega)]
def yGe:Con:=⟨yhz,ys5,fun x=>(fun n=>some ((n,()),())) (ynw x.1 x.2.1 x.2.2.1)⟩
theorem yZj:ConOk Tryz.prog 148 yGe:=(yVM).mono (fun x r hk h=>(yX8 x.1 x.2.1 x.2.2.1 hk).trans h)
end
section
def ypA:Code:=(Tryz.f214.body).getD .skip
def yu6:Env:=zki TT [] []
theorem yUu:FrOk Tryz.prog ⟨yu6,17,fun _=>none⟩ ypA:=zkp yb yc trivial
def yHg:Nat→Option Seg:=fun _=>none
def ycU:Shape:=⟨[(3,false,[.int .i64]),(6,false,[.br tI]),(7,false,[.int .i64]),(8,false,[.int .i64])],[],[]⟩
def yiC:Shape:=⟨[(3,false,[.ci .i64 0]),(6,false,[.br tI]),(7,false,[.int .i64]),(8,false,[.ci .i64 0])],[],[]⟩
def yij:Shape:=⟨[(3,false,[.int .i64])],[],[]⟩
def yoT:Shape:=⟨[],[],[]⟩
abbrev yuf (v0:Int) (v1:List Int) (v2 v3:Int):(ycU).X:=(((v0,()),(v1,()),(v2,()),(v3,()),()),(),())
abbrev yRz (v0:List Int) (v1:Int):(yiC).X:=((((),()),(v0,()),(v1,()),((),()),()),(),())
abbrev yEp (v0:Int):(yij).X:=(((v0,()),()),(),())
def yuC (v0:Int) (v1:List Int) (v2 v3:Int):Option ((ycU).X ⊕ ((yij).X ⊕ (yoT).X)) :=
 bif (ltb v3 v2) then
 bif (inb v3 v1.length) then
 some (.inl ((((IntKind.i64.wrap ((BitVec.ofInt IntKind.i64.bits v0 ^^^ BitVec.ofInt IntKind.i64.bits (nth v1 v3 0)).toNat:Int)),()),(v1,()),(v2,()),((IntKind.i64.wrap (v3+1)),()),()),(),()))
 else none
 else
 some (.inr (.inl (((v0,()),()),(),())))
def ydw (x:(ycU).X):=yuC x.1.1.1 x.1.2.1.1 x.1.2.2.1.1 x.1.2.2.2.1.1
def yDS (x:(yiC).X):(ycU).X:=(((0,()),(x.1.2.1.1,()),(x.1.2.2.1.1,()),(0,()),()),(),())
def yF1:Code:=(zdI ypA 64 116).getD .skip
theorem yTE:zdI ypA 64 29=some (.block 0 (.loop yF1)):=by kernel_rfl
theorem yWM (x:(ycU).X):zg7 ⟨yu6,17,yHg⟩ 0 yF1 116 ycU yij yoT x=ydw x:=by kernel_rfl
def yD9 (x:(yiC).X):Nat:=18446744073709551616
def yvj (x:(yiC).X):Option ((yij).X ⊕ (yoT).X):=zr ydw (yD9 x) (yDS x)
def yEK:Seg:=⟨yiC,yij,yoT,yvj⟩
def yHh:Nat→Option Seg:=fun q=>bif Nat.beq q 29 then some yEK else yHg q
theorem yUv:FrOk Tryz.prog ⟨yu6,17,yHh⟩ ypA:=(yUu).loop (sg:=yEK) ycU yDS (by decide) yTE ydw yD9 (by decide) (fun _=>rfl) (fun x r _ h=>h) yWM
abbrev ykO:List Par:= [.rd tL]
abbrev yvA:List OT:= [⟨false,tI,.fz⟩]
def yrD (a0:List Int):Option (ResD yvA×MutD ykO) :=
 zjw (yvj ((((),()),(a0,()),((a0.length:Int),()),((),()),()),(),())) (fun y0 =>
 some ((y0.1.1.1,()),())) (fun y0 =>
 none)
theorem y2b (x:InD ykO):zjH ⟨yu6,17,yHh⟩ Tryz.f214.results.toList ypA ykO yvA x=yrD x.1:=by kernel_rfl
theorem yYP:ConOk Tryz.prog 214 ⟨ykO,yvA,fun x=>yrD x.1⟩:=zkh (yUv) Tryz.func214 (by kernel_rfl) (by kernel_rfl) Tryz.ntmps214.symm (by decide) (fun x r h=>(y2b x).trans h)
def ylq (a0:List Int):Int:=yfm a0
theorem y0W (a0:List Int) (hk:zi9 ykO (a0,())):yrD a0=(fun n=>some ((n,()),())) (ylq a0):=by
 have hb:a0.length * 8≤2 ^ 47:=hk.1.1
 have h1:yvj (yRz a0 a0.length)=some (.inl (yEp (yfm a0))) :=
  zkk (step:=ydw) a0 0 (fun i s=>yuf s a0 a0.length i) xw (fun _ _=>True) (fun s=> .inl (yEp s)) (fun i s hi _=>⟨by
   simp only [ydw,yuf,yuC,zjI (show (i:Int) < a0.length by omega),cond_true,wr (show -9223372036854775808≤(i:Int)+1 by omega) (by omega),Int.natCast_add,Int.natCast_one,Int.toNat_natCast,zkO hi,zjW]; rfl,trivial⟩) (fun s _=>by simp only [ydw,yuf,yuC,zkm (Int.le_refl _),cond_false]) 0 trivial _ (by show _ < 18446744073709551616; omega)
 unfold yrD ylq
 rw [h1]; rfl
def yHP:Con:=⟨ykO,yvA,fun x=>(fun n=>some ((n,()),())) (ylq x.1)⟩
theorem y1w:ConOk Tryz.prog 214 yHP:=(yYP).mono (fun x r hk h=>(y0W x.1 hk).trans h)
end
section
def yAF:Code:=(Tryz.f241.body).getD .skip
def yA7:Env:=zki TT [(214,yHP)] []
theorem yIM:FrOk Tryz.prog ⟨yA7,5,fun _=>none⟩ yAF:=zkp yb yc ⟨y1w,trivial⟩
def yJ6:Nat→Option Seg:=fun _=>none
abbrev yfD:List Par:= [.rd tL]
abbrev yjU:List OT:= [⟨false,tI,.fz⟩]
def ynY (a0:List Int):Option (ResD yjU×MutD yfD) :=
 let r1:=ylq a0
 some ((r1,()),())
theorem yNW (x:InD yfD):zjH ⟨yA7,5,yJ6⟩ Tryz.f241.results.toList yAF yfD yjU x=ynY x.1:=by kernel_rfl
theorem yKC:ConOk Tryz.prog 241 ⟨yfD,yjU,fun x=>ynY x.1⟩:=zkh (yIM) Tryz.func241 (by kernel_rfl) (by kernel_rfl) Tryz.ntmps241.symm (by decide) (fun x r h=>(yNW x).trans h)
def yka (a0:List Int):Int :=
 let r1:=ylq a0
 r1
def yxb:Con:=⟨yfD,yjU,fun x=>(fun n=>some ((n,()),())) (yka x.1)⟩
theorem yMS (a0:List Int):ynY a0=(fun n=>some ((n,()),())) (yka a0):=zkS (p:=fun (n:Int)=>((n,()),())) rfl
theorem yM5:ConOk Tryz.prog 241 yxb:=(yKC).mono (fun x r _ h=>(yMS x.1).trans h)
end
section
def yaQ:Code:=(Tryz.f165.body).getD .skip
def ydX:Env:=zki TT [(47,yGf),(107,yjf),(108,yGd),(148,yGe),(231,yr6),(241,yxb)] []
theorem yKe:FrOk Tryz.prog ⟨ydX,70,fun _=>none⟩ yaQ:=zkp yb yc ⟨yZk,ysh,yZi,yZj,yEz,yM5,trivial⟩
def yyR:Nat→Option Seg:=fun _=>none
def yay:Shape:=⟨[(0,false,[.ptr 1000000000 0]),(1,false,[.int .i64]),(7,false,[.at 800000000]),(28,false,[.br tI]),(29,false,[.int .i64]),(30,false,[.int .i64])],[(1000000000,[.int .i64,.int .i64,.int .i64,.at 800000001,.int .i64,.int .i64,.int .i64,.int .i64,.int .i64,.at 800000002,.int .i64,.bool,.bool])],[(800000000,tI,.fz),(800000001,tM,(.pr (.ow (.ow .fz)) (.pr (.ow (.pr .fz (.ow .fz))) (.pr .fz (.ow .fz))))),(800000002,tW,(.pr .fz (.ow .fz)))]⟩
def ydU:Shape:=⟨[(0,false,[.ptr 1000000000 0]),(1,false,[.int .i64]),(7,false,[.at 800000000]),(28,false,[.br tI]),(29,false,[.int .i64]),(30,false,[.ci .i64 0])],[(1000000000,[.int .i64,.int .i64,.int .i64,.at 800000001,.int .i64,.int .i64,.int .i64,.int .i64,.int .i64,.at 800000002,.int .i64,.bool,.bool])],[(800000000,tI,.fz),(800000001,tM,(.pr (.ow (.ow .fz)) (.pr (.ow (.pr .fz (.ow .fz))) (.pr .fz (.ow .fz))))),(800000002,tW,(.pr .fz (.ow .fz)))]⟩
def ydS:Shape:=⟨[(0,false,[.ptr 1000000000 0]),(1,false,[.int .i64]),(7,false,[.at 800000000])],[(1000000000,[.int .i64,.int .i64,.int .i64,.at 800000001,.int .i64,.int .i64,.int .i64,.int .i64,.int .i64,.at 800000002,.int .i64,.bool,.bool])],[(800000000,tI,.fz),(800000001,tM,(.pr (.ow (.ow .fz)) (.pr (.ow (.pr .fz (.ow .fz))) (.pr .fz (.ow .fz))))),(800000002,tW,(.pr .fz (.ow .fz)))]⟩
def yhm:Shape:=⟨[],[],[]⟩
abbrev ymr (v0:Int) (v1:List Int) (v2 v3:Int) (v4:dA) (v5:List Int):(yay).X:=((((),()),(v0,()),((),()),(v1,()),(v2,()),(v3,()),()),((v4.1,v4.2.1.1,v4.2.1.2,(),v4.2.2.2.1,v4.2.2.2.2.1,v4.2.2.2.2.2.1,v4.2.2.2.2.2.2.1,v4.2.2.2.2.2.2.2.1,(),v4.2.2.2.2.2.2.2.2.2.1,v4.2.2.2.2.2.2.2.2.2.2.1,v4.2.2.2.2.2.2.2.2.2.2.2,()),()),(v5,v4.2.2.1,v4.2.2.2.2.2.2.2.2.1,()))
abbrev yIT (v0:Int) (v1:List Int) (v2:Int) (v3:dA) (v4:List Int):(ydU).X:=((((),()),(v0,()),((),()),(v1,()),(v2,()),((),()),()),((v3.1,v3.2.1.1,v3.2.1.2,(),v3.2.2.2.1,v3.2.2.2.2.1,v3.2.2.2.2.2.1,v3.2.2.2.2.2.2.1,v3.2.2.2.2.2.2.2.1,(),v3.2.2.2.2.2.2.2.2.2.1,v3.2.2.2.2.2.2.2.2.2.2.1,v3.2.2.2.2.2.2.2.2.2.2.2,()),()),(v4,v3.2.2.1,v3.2.2.2.2.2.2.2.2.1,()))
abbrev ywq (v0:Int) (v1:dA) (v2:List Int):(ydS).X:=((((),()),(v0,()),((),()),()),((v1.1,v1.2.1.1,v1.2.1.2,(),v1.2.2.2.1,v1.2.2.2.2.1,v1.2.2.2.2.2.1,v1.2.2.2.2.2.2.1,v1.2.2.2.2.2.2.2.1,(),v1.2.2.2.2.2.2.2.2.2.1,v1.2.2.2.2.2.2.2.2.2.2.1,v1.2.2.2.2.2.2.2.2.2.2.2,()),()),(v2,v1.2.2.1,v1.2.2.2.2.2.2.2.2.1,()))
def ymO (v0:Int) (v1:List Int) (v2 v3 v4 v5 v6 v7 v8 v9 v10 v11 v12:Int) (v13 v14:Bool) (v15:List Int) (v16:List dM) (v17:List dW):Option ((yay).X ⊕ ((ydS).X ⊕ (yhm).X)) :=
 bif (ltb v3 v2) then
 bif (inb v3 v1.length) then
 let r5:=ynw (v5,v6) v0 v3
 bif (inb r5 v15.length) then
 some (.inl ((((),()),(v0,()),((),()),(v1,()),(v2,()),((IntKind.i64.wrap (v3+1)),()),()),((v4,v5,v6,(),v7,v8,v9,v10,v11,(),v12,v13,v14,()),()),((v15.set (r5).toNat (nth v1 v3 0)),v16,v17,())))
 else none
 else none
 else
 some (.inr (.inl ((((),()),(v0,()),((),()),()),((v4,v5,v6,(),v7,v8,v9,v10,v11,(),v12,v13,v14,()),()),(v15,v16,v17,()))))
def yaM (x:(yay).X):=ymO x.1.2.1.1 x.1.2.2.2.1.1 x.1.2.2.2.2.1.1 x.1.2.2.2.2.2.1.1 x.2.1.1.1 x.2.1.1.2.1 x.2.1.1.2.2.1 x.2.1.1.2.2.2.2.1 x.2.1.1.2.2.2.2.2.1 x.2.1.1.2.2.2.2.2.2.1 x.2.1.1.2.2.2.2.2.2.2.1 x.2.1.1.2.2.2.2.2.2.2.2.1 x.2.1.1.2.2.2.2.2.2.2.2.2.2.1 x.2.1.1.2.2.2.2.2.2.2.2.2.2.2.1 x.2.1.1.2.2.2.2.2.2.2.2.2.2.2.2.1 x.2.2.1 x.2.2.2.1 x.2.2.2.2.1
def ywd (x:(ydU).X):(yay).X:=((((),()),(x.1.2.1.1,()),((),()),(x.1.2.2.2.1.1,()),(x.1.2.2.2.2.1.1,()),(0,()),()),((x.2.1.1.1,x.2.1.1.2.1,x.2.1.1.2.2.1,(),x.2.1.1.2.2.2.2.1,x.2.1.1.2.2.2.2.2.1,x.2.1.1.2.2.2.2.2.2.1,x.2.1.1.2.2.2.2.2.2.2.1,x.2.1.1.2.2.2.2.2.2.2.2.1,(),x.2.1.1.2.2.2.2.2.2.2.2.2.2.1,x.2.1.1.2.2.2.2.2.2.2.2.2.2.2.1,x.2.1.1.2.2.2.2.2.2.2.2.2.2.2.2.1,()),()),(x.2.2.1,x.2.2.2.1,x.2.2.2.2.1,()))
def yw5:Code:=(zdI yaQ 64 244).getD .skip
theorem yJ9:zdI yaQ 64 61=some (.block 0 (.loop yw5)):=by kernel_rfl
theorem yKI (x:(yay).X):zg7 ⟨ydX,70,yyR⟩ 0 yw5 244 yay ydS yhm x=yaM x:=by kernel_rfl
def ywh (x:(ydU).X):Nat:=18446744073709551616
def ynJ (x:(ydU).X):Option ((ydS).X ⊕ (yhm).X):=zr yaM (ywh x) (ywd x)
def ywW:Seg:=⟨ydU,ydS,yhm,ynJ⟩
def ypJ:Nat→Option Seg:=fun q=>bif Nat.beq q 61 then some ywW else yyR q
theorem yKf:FrOk Tryz.prog ⟨ydX,70,ypJ⟩ yaQ:=(yKe).loop (sg:=ywW) yay ywd (by decide) yJ9 yaM ywh (by decide) (fun _=>rfl) (fun x r _ h=>h) yKI
def yaj:Shape:=⟨[(0,false,[.ptr 1000000000 0]),(1,false,[.int .i64]),(46,false,[.at 800000000]),(47,false,[.int .i64]),(48,false,[.int .i64])],[(1000000000,[.int .i64,.int .i64,.int .i64,.at 800000001,.int .i64,.int .i64,.int .i64,.int .i64,.int .i64,.at 800000002,.int .i64,.bool,.bool])],[(800000000,tI,.fz),(800000001,tM,(.pr (.ow (.ow .fz)) (.pr (.ow (.pr .fz (.ow .fz))) (.pr .fz (.ow .fz))))),(800000002,tW,(.pr .fz (.ow .fz)))]⟩
def yc6:Shape:=⟨[(0,false,[.ptr 1000000000 0]),(1,false,[.int .i64]),(46,false,[.at 800000000]),(47,false,[.int .i64]),(48,false,[.ci .i64 0])],[(1000000000,[.int .i64,.int .i64,.int .i64,.at 800000001,.int .i64,.int .i64,.int .i64,.int .i64,.int .i64,.at 800000002,.int .i64,.bool,.bool])],[(800000000,tI,.fz),(800000001,tM,(.pr (.ow (.ow .fz)) (.pr (.ow (.pr .fz (.ow .fz))) (.pr .fz (.ow .fz))))),(800000002,tW,(.pr .fz (.ow .fz)))]⟩
def yc4:Shape:=⟨[],[(1000000000,[.int .i64,.int .i64,.int .i64,.at 800000000,.int .i64,.int .i64,.int .i64,.int .i64,.int .i64,.at 800000001,.int .i64,.bool,.bool])],[(800000000,tM,(.pr (.ow (.ow .fz)) (.pr (.ow (.pr .fz (.ow .fz))) (.pr .fz (.ow .fz))))),(800000001,tW,(.pr .fz (.ow .fz)))]⟩
def yc8:Shape:=⟨[(6,false,[.bool])],[(1000000000,[.int .i64,.int .i64,.int .i64,.at 800000000,.int .i64,.int .i64,.int .i64,.int .i64,.int .i64,.at 800000001,.int .i64,.bool,.bool])],[(800000000,tM,(.pr (.ow (.ow .fz)) (.pr (.ow (.pr .fz (.ow .fz))) (.pr .fz (.ow .fz))))),(800000001,tW,(.pr .fz (.ow .fz)))]⟩
abbrev yll (v0 v1 v2:Int) (v3:dA) (v4:List Int):(yaj).X:=((((),()),(v0,()),((),()),(v1,()),(v2,()),()),((v3.1,v3.2.1.1,v3.2.1.2,(),v3.2.2.2.1,v3.2.2.2.2.1,v3.2.2.2.2.2.1,v3.2.2.2.2.2.2.1,v3.2.2.2.2.2.2.2.1,(),v3.2.2.2.2.2.2.2.2.2.1,v3.2.2.2.2.2.2.2.2.2.2.1,v3.2.2.2.2.2.2.2.2.2.2.2,()),()),(v4,v3.2.2.1,v3.2.2.2.2.2.2.2.2.1,()))
abbrev yIn (v0 v1:Int) (v2:dA) (v3:List Int):(yc6).X:=((((),()),(v0,()),((),()),(v1,()),((),()),()),((v2.1,v2.2.1.1,v2.2.1.2,(),v2.2.2.2.1,v2.2.2.2.2.1,v2.2.2.2.2.2.1,v2.2.2.2.2.2.2.1,v2.2.2.2.2.2.2.2.1,(),v2.2.2.2.2.2.2.2.2.2.1,v2.2.2.2.2.2.2.2.2.2.2.1,v2.2.2.2.2.2.2.2.2.2.2.2,()),()),(v3,v2.2.2.1,v2.2.2.2.2.2.2.2.2.1,()))
abbrev yln (v0:dA):(yc4).X:=((),((v0.1,v0.2.1.1,v0.2.1.2,(),v0.2.2.2.1,v0.2.2.2.2.1,v0.2.2.2.2.2.1,v0.2.2.2.2.2.2.1,v0.2.2.2.2.2.2.2.1,(),v0.2.2.2.2.2.2.2.2.2.1,v0.2.2.2.2.2.2.2.2.2.2.1,v0.2.2.2.2.2.2.2.2.2.2.2,()),()),(v0.2.2.1,v0.2.2.2.2.2.2.2.2.1,()))
abbrev ylp (v0:Bool) (v1:dA):(yc8).X:=(((v0,()),()),((v1.1,v1.2.1.1,v1.2.1.2,(),v1.2.2.2.1,v1.2.2.2.2.1,v1.2.2.2.2.2.1,v1.2.2.2.2.2.2.1,v1.2.2.2.2.2.2.2.1,(),v1.2.2.2.2.2.2.2.2.2.1,v1.2.2.2.2.2.2.2.2.2.2.1,v1.2.2.2.2.2.2.2.2.2.2.2,()),()),(v1.2.2.1,v1.2.2.2.2.2.2.2.2.1,()))
def ylF (v0 v1 v2 v3 v4 v5 v6 v7 v8 v9 v10 v11:Int) (v12 v13:Bool) (v14:List Int) (v15:List dM) (v16:List dW):Option ((yaj).X ⊕ ((yc4).X ⊕ (yc8).X)) :=
 bif (ltb v2 v1) then
 bif (inb v2 v14.length) then
 let r10:=ynx (v3,(v4,v5),v15,v6,v7,v8,v9,v10,v16,v11,v12,v13) v2 v0
 bif r10 then
 let r11:=ytD v0
 bnd (yej (v3,(v4,v5),v15,v6,v7,v8,v9,v10,v16,v11,v12,v13) v2 r11 ([(nth v14 v2 0)]:List Int)) fun r12 =>
 bif (!r12.1.1) then
 some (.inr (.inr (((false,()),()),((r12.2.1.1,r12.2.1.2.1.1,r12.2.1.2.1.2,(),r12.2.1.2.2.2.1,r12.2.1.2.2.2.2.1,r12.2.1.2.2.2.2.2.1,r12.2.1.2.2.2.2.2.2.1,r12.2.1.2.2.2.2.2.2.2.1,(),r12.2.1.2.2.2.2.2.2.2.2.2.1,r12.2.1.2.2.2.2.2.2.2.2.2.2.1,r12.2.1.2.2.2.2.2.2.2.2.2.2.2,()),()),(r12.2.1.2.2.1,r12.2.1.2.2.2.2.2.2.2.2.1,()))))
 else
 some (.inl ((((),()),(v0,()),((),()),(v1,()),((IntKind.i64.wrap (v2+1)),()),()),((r12.2.1.1,r12.2.1.2.1.1,r12.2.1.2.1.2,(),r12.2.1.2.2.2.1,r12.2.1.2.2.2.2.1,r12.2.1.2.2.2.2.2.1,r12.2.1.2.2.2.2.2.2.1,r12.2.1.2.2.2.2.2.2.2.1,(),r12.2.1.2.2.2.2.2.2.2.2.2.1,r12.2.1.2.2.2.2.2.2.2.2.2.2.1,r12.2.1.2.2.2.2.2.2.2.2.2.2.2,()),()),(v14,r12.2.1.2.2.1,r12.2.1.2.2.2.2.2.2.2.2.1,())))
 else
 some (.inl ((((),()),(v0,()),((),()),(v1,()),((IntKind.i64.wrap (v2+1)),()),()),((v3,v4,v5,(),v6,v7,v8,v9,v10,(),v11,v12,v13,()),()),(v14,v15,v16,())))
 else none
 else
 some (.inr (.inl ((),((v3,v4,v5,(),v6,v7,v8,v9,v10,(),v11,v12,v13,()),()),(v15,v16,()))))
def yaw (x:(yaj).X):=ylF x.1.2.1.1 x.1.2.2.2.1.1 x.1.2.2.2.2.1.1 x.2.1.1.1 x.2.1.1.2.1 x.2.1.1.2.2.1 x.2.1.1.2.2.2.2.1 x.2.1.1.2.2.2.2.2.1 x.2.1.1.2.2.2.2.2.2.1 x.2.1.1.2.2.2.2.2.2.2.1 x.2.1.1.2.2.2.2.2.2.2.2.1 x.2.1.1.2.2.2.2.2.2.2.2.2.2.1 x.2.1.1.2.2.2.2.2.2.2.2.2.2.2.1 x.2.1.1.2.2.2.2.2.2.2.2.2.2.2.2.1 x.2.2.1 x.2.2.2.1 x.2.2.2.2.1
def yuU (x:(yc6).X):(yaj).X:=((((),()),(x.1.2.1.1,()),((),()),(x.1.2.2.2.1.1,()),(0,()),()),((x.2.1.1.1,x.2.1.1.2.1,x.2.1.1.2.2.1,(),x.2.1.1.2.2.2.2.1,x.2.1.1.2.2.2.2.2.1,x.2.1.1.2.2.2.2.2.2.1,x.2.1.1.2.2.2.2.2.2.2.1,x.2.1.1.2.2.2.2.2.2.2.2.1,(),x.2.1.1.2.2.2.2.2.2.2.2.2.2.1,x.2.1.1.2.2.2.2.2.2.2.2.2.2.2.1,x.2.1.1.2.2.2.2.2.2.2.2.2.2.2.2.1,()),()),(x.2.2.1,x.2.2.2.1,x.2.2.2.2.1,()))
def yv1:Code:=(zdI yaQ 64 500).getD .skip
theorem yID:zdI yaQ 64 125=some (.block 2 (.loop yv1)):=by kernel_rfl
theorem yI4 (x:(yaj).X):zg7 ⟨ydX,70,ypJ⟩ 2 yv1 500 yaj yc4 yc8 x=yaw x:=by kernel_rfl
def yuW (x:(yc6).X):Nat:=18446744073709551616
def ylN (x:(yc6).X):Option ((yc4).X ⊕ (yc8).X):=zr yaw (yuW x) (yuU x)
def yu0:Seg:=⟨yc6,yc4,yc8,ylN⟩
def yyS:Nat→Option Seg:=fun q=>bif Nat.beq q 125 then some yu0 else ypJ q
theorem yKg:FrOk Tryz.prog ⟨ydX,70,yyS⟩ yaQ:=(yKf).loop (sg:=yu0) yaj yuU (by decide) yID yaw yuW (by decide) (fun _=>rfl) (fun x r _ h=>h) yI4
abbrev yb4:List Par:= [.pt tA (.pr .fz (.pr (.pr .fz .fz) (.pr (.ow (.pr (.ow (.ow .fz)) (.pr (.ow (.pr .fz (.ow .fz))) (.pr .fz (.ow .fz))))) (.pr .fz (.pr .fz (.pr .fz (.pr .fz (.pr .fz (.pr (.ow (.pr .fz (.ow .fz))) (.pr .fz (.pr .fz .fz))))))))))),.rd tI,.rd tL]
abbrev ygX:List OT:= [⟨false,tB,.fz⟩]
def yjw (a0:dA) (a1:Int) (a2:List Int):Option (ResD ygX×MutD yb4) :=
 bif (zkc a0.2.1.1 8) then
 let r1:=ydb a0.2.1 a1
 let r2:=yka a2
 bif (inb r1 (List.replicate (a0.2.1.1).toNat (0:Int)).length) then
 let r3:=((List.replicate (a0.2.1.1).toNat (0:Int)).set (r1).toNat r2)
 zjw (ynJ ((((),()),(a1,()),((),()),(a2,()),((a2.length:Int),()),((),()),()),((a0.1,a0.2.1.1,a0.2.1.2,(),a0.2.2.2.1,a0.2.2.2.2.1,a0.2.2.2.2.2.1,a0.2.2.2.2.2.2.1,a0.2.2.2.2.2.2.2.1,(),a0.2.2.2.2.2.2.2.2.2.1,a0.2.2.2.2.2.2.2.2.2.2.1,a0.2.2.2.2.2.2.2.2.2.2.2,()),()),(r3,a0.2.2.1,a0.2.2.2.2.2.2.2.2.1,()))) (fun y5 =>
 zjw (ylN ((((),()),(y5.1.2.1.1,()),((),()),((y5.2.2.1.length:Int),()),((),()),()),((y5.2.1.1.1,y5.2.1.1.2.1,y5.2.1.1.2.2.1,(),y5.2.1.1.2.2.2.2.1,y5.2.1.1.2.2.2.2.2.1,y5.2.1.1.2.2.2.2.2.2.1,y5.2.1.1.2.2.2.2.2.2.2.1,y5.2.1.1.2.2.2.2.2.2.2.2.1,(),y5.2.1.1.2.2.2.2.2.2.2.2.2.2.1,y5.2.1.1.2.2.2.2.2.2.2.2.2.2.2.1,y5.2.1.1.2.2.2.2.2.2.2.2.2.2.2.2.1,()),()),(y5.2.2.1,y5.2.2.2.1,y5.2.2.2.2.1,()))) (fun y12 =>
 some ((true,()),((y12.2.1.1.1,(y12.2.1.1.2.1,y12.2.1.1.2.2.1),y12.2.2.1,y12.2.1.1.2.2.2.2.1,y12.2.1.1.2.2.2.2.2.1,y12.2.1.1.2.2.2.2.2.2.1,y12.2.1.1.2.2.2.2.2.2.2.1,y12.2.1.1.2.2.2.2.2.2.2.2.1,y12.2.2.2.1,y12.2.1.1.2.2.2.2.2.2.2.2.2.2.1,y12.2.1.1.2.2.2.2.2.2.2.2.2.2.2.1,y12.2.1.1.2.2.2.2.2.2.2.2.2.2.2.2.1),()))) (fun y12 =>
 some ((y12.1.1.1,()),((y12.2.1.1.1,(y12.2.1.1.2.1,y12.2.1.1.2.2.1),y12.2.2.1,y12.2.1.1.2.2.2.2.1,y12.2.1.1.2.2.2.2.2.1,y12.2.1.1.2.2.2.2.2.2.1,y12.2.1.1.2.2.2.2.2.2.2.1,y12.2.1.1.2.2.2.2.2.2.2.2.1,y12.2.2.2.1,y12.2.1.1.2.2.2.2.2.2.2.2.2.2.1,y12.2.1.1.2.2.2.2.2.2.2.2.2.2.2.1,y12.2.1.1.2.2.2.2.2.2.2.2.2.2.2.2.1),())))) (fun y5 =>
 none)
 else none
 else none
theorem yQl (x:InD yb4):zjH ⟨ydX,70,yyS⟩ Tryz.f165.results.toList yaQ yb4 ygX x=yjw x.1 x.2.1 x.2.2.1:=by kernel_rfl
theorem yMW:ConOk Tryz.prog 165 ⟨yb4,ygX,fun x=>yjw x.1 x.2.1 x.2.2.1⟩:=zkh (yKg) Tryz.func165 (by kernel_rfl) (by kernel_rfl) Tryz.ntmps165.symm (by decide) (fun x r h=>(yQl x).trans h)
def ymt (a0:dA) (a1:Int) (a2:List Int):Bool×dA:=(!(yd (yL a0 a1 a2)),yL a0 a1 a2)
def yhb (a0:dA) (a1:Int) (a2:List Int):Bool:= !(yd a0)&&(yK a0.2.1 a1&&((a2.length:Int)==a0.2.1.1 - 1&&(a0.2.2.1.length:Int)==a0.2.1.1))
theorem yON (a0:dA) (a1:Int) (a2:List Int) (hk:zi9 yb4 (a0,a1,a2,())) (hq:yhb a0 a1 a2=true):yjw a0 a1 a2=(fun n=>some ((n.1,()),(n.2,()))) (ymt a0 a1 a2):=by
 simp only [yhb,Bool.and_eq_true,beq_iff_eq,Bool.not_eq_true'] at hq
 obtain ⟨hd0,hs0,hl0,hm0⟩:=hq
 have hg:=yo.1 (ycv.1 hs0).1
 have hp:=yqA hs0
 have hL:=y3J (N:=a0.2.1.1) (p:=yg a0.2.1 a1) (x:=yfm a2) (data:=a2) ⟨by omega,by omega⟩ hp hl0
 generalize hw:(List.range a0.2.1.1.toNat).map (fun (i:Nat)=>yyK (yg a0.2.1 a1) a0.2.1.1 (yfm a2) a2 i)=W at hL
 have hWl:W.length=a0.2.2.1.length:=by rw [← hw,List.length_map,List.length_range]; omega
 have hWat: ∀ i:Nat,i < a0.2.2.1.length→nth W i 0=yyK (yg a0.2.1 a1) a0.2.1.1 (yfm a2) a2 i:=fun i hi=>by
  rw [← hw,zjW,zcq (by rw [List.length_map,List.length_range]; omega)]; simp
 have h1:ynJ (yIT a1 a2 a2.length a0 ((List.replicate a0.2.1.1.toNat 0).set (yg a0.2.1 a1).toNat (yfm a2)))=some (.inl (ywq a1 a0 W)):=by
  have:=zks (step:=yaM) a2.length (fun i s=>ymr a1 a2 a2.length i a0 s) (fun l (i:Nat)=>l.set ((yg a0.2.1 a1+1+i).tmod a0.2.1.1).toNat (nth a2 i 0)) (fun _ s=>s.length=a0.2.1.1.toNat) (fun s=> .inl (ywq a1 a0 s)) (fun i s hi hs=>⟨by
   have hd:=y3s hs0 (show (0:Int)≤i by omega) (show (i:Int)≤a0.2.1.1 - 2 by omega)
   have he:yeK a0.2.1 a1 i=(yg a0.2.1 a1+1+i).tmod a0.2.1.1:=by unfold yeK; rw [hs0,zk0 (show (0:Int)≤i by omega),zk0 (show (i:Int)≤a0.2.1.1 - 2 by omega)]; rfl
   simp only [yaM,ymr,ymO,zjI (show (i:Int) < a2.length by omega),cond_true,wr (show -9223372036854775808≤(i:Int)+1 by omega) (by omega),Int.natCast_add,Int.natCast_one,Int.toNat_natCast,zkO hi,zkV,ynw,zjP.2 (show 0≤yeK a0.2.1 a1 i∧yeK a0.2.1 a1 i < s.length by omega)]
   rw [he],by rw [List.length_set]; exact hs⟩) (fun s hs=>by simp only [yaM,ymr,ymO,zkm (Int.le_refl _),cond_false]) ((List.replicate a0.2.1.1.toNat 0).set (yg a0.2.1 a1).toNat (yfm a2)) (by rw [List.length_set,List.length_replicate]) 18446744073709551616 (by omega)
  rw [hL]at this
  exact this
 have h2:ylN (yIn a1 W.length a0 W)=some (bif yd (yL a0 a1 a2) then .inr (ylp false (yL a0 a1 a2)) else .inl (yln (yL a0 a1 a2))):=by
  have:=zkr (step:=yaw) a0.2.2.1.length (fun i s=>yll a1 W.length i s W) (fun i s=>bif yd (yeg (yg a0.2.1 a1) a0.2.1.1 a1 a2 s i) then (.inr (yeg (yg a0.2.1 a1) a0.2.1.1 a1 a2 s i):dA ⊕ dA) else .inl (yeg (yg a0.2.1 a1) a0.2.1.1 a1 a2 s i)) (fun _ s=>s.2.2.1.length=a0.2.2.1.length∧yd s=false) id
   (fun b=>bif yd b then .inr (ylp false b) else .inl (yln b)) (fun i s hi hs=>by
    constructor
    ·simp only [yaw,yll,ylF,zjI (show (i:Int) < W.length by omega),cond_true,wr (show -9223372036854775808≤(i:Int)+1 by omega) (by omega),Int.natCast_add,Int.natCast_one,Int.toNat_natCast,zkO (show i < W.length by omega),zkV,ynx,yX4,hWat i hi,yeg]
     rw [ysi s i (ysI a1) [yyK (yg a0.2.1 a1) a0.2.1.1 (yfm a2) a2 i] (by unfold ycf; rw [zkO (by rw [hs.1]; exact hi),hs.2]; rfl)]
     cases hlv:yf3 s i a1
     ·simp only [cond_false,hs.2]
     ·simp only [zky,ycd,cond_true]
      cases hd:yd (yeR s i (ysI a1) [yyK (yg a0.2.1 a1) a0.2.1.1 (yfm a2) a2 i])
      ·rfl
      ·simp only [hd,Bool.not_true,Bool.not_false,cond_true,ylp]
    ·intro s' h
     cases hd:yd (yeg (yg a0.2.1 a1) a0.2.1.1 a1 a2 s i)
     ·rw [hd]at h
      cases h
      exact ⟨(yyJ _ _ _ _ s i).trans hs.1,hd⟩
     ·rw [hd]at h; cases h) (fun s hs=>by simp only [yaw,yll,ylF,hs.2,hWl,zkm (Int.le_refl _),cond_false,id,yln]) a0 ⟨rfl,hd0⟩ 18446744073709551616 (by omega)
  rw [yEl (fun a i h=>y13 _ _ _ _ i h),← List.range_eq_range'] at this
  exact this
 unfold yjw ymt ydb yka ylq
 rw [zkH.2 (show 0≤a0.2.1.1∧a0.2.1.1 * ((8:Nat):Int)≤140737488355328 by omega)]
 simp only [cond_true]
 rw [zjP.2 (show 0≤yg a0.2.1 a1∧yg a0.2.1 a1 < ((List.replicate a0.2.1.1.toNat (0:Int)).length:Int) by rw [List.length_replicate]; omega),cond_true]
 refine (congrArg (fun z=>zjw z _ _) h1).trans ?_
 rw [zkJ]
 refine (congrArg (fun z=>zjw z _ _) h2).trans ?_
 cases hd:yd (yL a0 a1 a2)
 ·rfl
 ·simp only [cond_true,zkK,zkV]; rfl
def yce (a0:dA) (a1:Int) (a2:List Int):Option (ResD ygX×MutD yb4):=bif yhb a0 a1 a2 then (fun n=>some ((n.1,()),(n.2,()))) (ymt a0 a1 a2) else none
theorem yPm (a0:dA) (a1:Int) (a2:List Int) (h:yhb a0 a1 a2=true):yce a0 a1 a2=(fun n=>some ((n.1,()),(n.2,()))) (ymt a0 a1 a2):=by unfold yce; rw [h]; rfl
def yzh:Con:=⟨yb4,ygX,fun x=>yce x.1 x.2.1 x.2.2.1⟩
theorem yPh:ConOk Tryz.prog 165 yzh:=(yMW).mono (fun x r hk h=>zkW h (fun hq=>yON x.1 x.2.1 x.2.2.1 hk hq))
end
end
end Go.Tf
