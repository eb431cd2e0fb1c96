/- Functions of the program, and what they come to. -/
import Derived.Test.YtgmadfpnljibhaaGreatScrubsF19
namespace Go.Tf
noncomputable section
open Go.Proofs
set_option synthInstance.maxHeartbeats 400000
set_option synthInstance.maxSize 10000
set_option linter.unusedVariables false
set_option linter.unusedSimpArgs false
set_option maxRecDepth 100000
section
def yCO:Code:=(Tryz.f172.body).getD .skip
def yDx:Env:=zki TT [(55,ytu),(183,yDW),(200,ypq)] []
theorem yJp:FrOk Tryz.prog ⟨yDx,24,fun _=>none⟩ yCO:=zkp yc yd ⟨yEl,yWx,yzP,trivial⟩
def yKZ:Nat→Option Seg:=fun _=>none
abbrev yfq:List Par:= [.rd tA,.rd tI]
abbrev yoA:List OT:= [⟨false,tL,(.ow .fz)⟩,⟨false,tB,.fz⟩]
def ykG (a0:dA) (a1:Int):Option (ResD yoA×MutD yfq) :=
  let r1:=ytR a0 a1
  bif (leb 0 r1) then
    bif (inb r1 a0.2.2.2.2.2.2.2.2.1.length) then
      let r2:=ycF ((nth a0.2.2.2.2.2.2.2.2.1 r1 (0,[])).2)
      some ((r2,true,()),())
    else none
  else
    let r3:=yeL a0 a1
    some ((r3.1,r3.2,()),())
theorem ySG (x:InD yfq):zjH ⟨yDx,24,yKZ⟩ Tryz.f172.results.toList yCO yfq yoA x=ykG x.1 x.2.1:=by kernel_rfl
theorem yNl:ConOk Tryz.prog 172 ⟨yfq,yoA,fun x=>ykG x.1 x.2.1⟩:=zkh (yJp) Tryz.func172 (by kernel_rfl) (by kernel_rfl) Tryz.ntmps172.symm (by decide) (fun x r h=>(ySG x).trans h)
def yfD (a0:dA) (a1:Int):List Int×Bool:=bif leb 0 (yw a0.2.2.2.2.2.2.2.2.1 a1) then ((nth a0.2.2.2.2.2.2.2.2.1 (yw a0.2.2.2.2.2.2.2.2.1 a1) (0,[])).2,true) else yY a0 a1
theorem yQz (a0:dA) (a1:Int) (hk:zi9 yfq (a0,a1,())):ykG a0 a1=(fun n=>some ((n.1,n.2,()),())) (yfD a0 a1):=by
  unfold ykG yfD ytR yeL ycF
  simp only []
  cases h:leb 0 (yw a0.2.2.2.2.2.2.2.2.1 a1)
  · rfl
  · rw [show inb (yw a0.2.2.2.2.2.2.2.2.1 a1) a0.2.2.2.2.2.2.2.2.1.length=true from (yrz (d:=((0,[]):dW)) h).1]; rfl
theorem yYK {a:dA} {s:Int} (h:yo a=true) (hs:yO a.2.1 s=true):yfD a s=yK a s:=by
  unfold yfD yK yY
  rw [h,hs]
  cases a.2.2.2.2.2.2.2.2.2.2.2<;>rfl
def yyQ:Con:=⟨yfq,yoA,fun x=>(fun n=>some ((n.1,n.2,()),())) (yfD x.1 x.2.1)⟩
theorem yRx:ConOk Tryz.prog 172 yyQ:=(yNl).mono (fun x r hk h=>(yQz x.1 x.2.1 hk).trans h)
end
section
def yAw:Code:=(Tryz.f173.body).getD .skip
def yA9:Env:=zki TT [(242,yiA)] []
theorem yHI:FrOk Tryz.prog ⟨yA9,14,fun _=>none⟩ yAw:=zkp yc yd ⟨yrR,trivial⟩
def yIV:Nat→Option Seg:=fun _=>none
abbrev yek:List Par:= [.rd tG,.rd tI]
abbrev ymr:List OT:= [⟨false,tI,.fz⟩]
def yiG (a0:dG) (a1:Int):Option (ResD ymr×MutD yek) :=
  let r1:=ybk a0 a1
  bif (!r1) then
    some (((-1),()),())
  else
    bif ((IntKind.i64.wrap (a0.1 - 1)) !=0) then
      some (((IntKind.i64.wrap (a1.tdiv (IntKind.i64.wrap (a0.1 - 1)))),()),())
    else none
theorem yO1 (x:InD yek):zjH ⟨yA9,14,yIV⟩ Tryz.f173.results.toList yAw yek ymr x=yiG x.1 x.2.1:=by kernel_rfl
theorem yKh:ConOk Tryz.prog 173 ⟨yek,ymr,fun x=>yiG x.1 x.2.1⟩:=zkh (yHI) Tryz.func173 (by kernel_rfl) (by kernel_rfl) Tryz.ntmps173.symm (by decide) (fun x r h=>(yO1 x).trans h)
def yh8 (a0:dG) (a1:Int):Int:=yQ a0 a1
theorem yM2 (a0:dG) (a1:Int) (hk:zi9 yek (a0,a1,())):yiG a0 a1=(fun n=>some ((n,()),())) (yh8 a0 a1):=by
  unfold yiG yh8 yQ
  rw [yCE]
  cases hb:blkOk a0 a1
  · rfl
  · obtain ⟨h1,h2,h3⟩:=ykg hb
    have h4:=yg.1 h1
    rw [wr (show -9223372036854775808≤a0.1 - 1 by omega) (by omega),show (a0.1 - 1 !=0)=true from bne_iff_ne.2 (by omega),wr (by omega) (by omega)]; rfl
def yxa:Con:=⟨yek,ymr,fun x=>(fun n=>some ((n,()),())) (yh8 x.1 x.2.1)⟩
theorem yNI:ConOk Tryz.prog 173 yxa:=(yKh).mono (fun x r hk h=>(yM2 x.1 x.2.1 hk).trans h)
end
section
def yCN:Code:=(Tryz.f174.body).getD .skip
def yDw:Env:=zki TT [(242,yiA)] []
theorem yJm:FrOk Tryz.prog ⟨yDw,14,fun _=>none⟩ yCN:=zkp yc yd ⟨yrR,trivial⟩
def yKY:Nat→Option Seg:=fun _=>none
abbrev yfo:List Par:= [.rd tG,.rd tI]
abbrev yoy:List OT:= [⟨false,tI,.fz⟩]
def ykE (a0:dG) (a1:Int):Option (ResD yoy×MutD yfo) :=
  let r1:=ybk a0 a1
  bif (!r1) then
    some (((-1),()),())
  else
    bif ((IntKind.i64.wrap (a0.1 - 1)) !=0) then
      some (((a1.tmod (IntKind.i64.wrap (a0.1 - 1))),()),())
    else none
theorem ySE (x:InD yfo):zjH ⟨yDw,14,yKY⟩ Tryz.f174.results.toList yCN yfo yoy x=ykE x.1 x.2.1:=by kernel_rfl
theorem yNj:ConOk Tryz.prog 174 ⟨yfo,yoy,fun x=>ykE x.1 x.2.1⟩:=zkh (yJm) Tryz.func174 (by kernel_rfl) (by kernel_rfl) Tryz.ntmps174.symm (by decide) (fun x r h=>(ySE x).trans h)
def yjT (a0:dG) (a1:Int):Int:=ybm a0 a1
theorem yQx (a0:dG) (a1:Int) (hk:zi9 yfo (a0,a1,())):ykE a0 a1=(fun n=>some ((n,()),())) (yjT a0 a1):=by
  unfold ykE yjT ybm
  rw [yCE]
  cases hb:blkOk a0 a1
  · rfl
  · obtain ⟨h1,h2,h3⟩:=ykg hb
    have h4:=yg.1 h1
    rw [wr (show -9223372036854775808≤a0.1 - 1 by omega) (by omega),show (a0.1 - 1 !=0)=true from bne_iff_ne.2 (by omega)]; rfl
def yyO:Con:=⟨yfo,yoy,fun x=>(fun n=>some ((n,()),())) (yjT x.1 x.2.1)⟩
theorem yRv:ConOk Tryz.prog 174 yyO:=(yNj).mono (fun x r hk h=>(yQx x.1 x.2.1 hk).trans h)
end
section
def yAu:Code:=(Tryz.f77.body).getD .skip
def yA7:Env:=zki TT [(171,yvP),(172,yyQ),(173,yxa),(174,yyO)] []
theorem yHG:FrOk Tryz.prog ⟨yA7,33,fun _=>none⟩ yAu:=zkp yc yd ⟨yKz,yRx,yNI,yRv,trivial⟩
def yIT:Nat→Option Seg:=fun _=>none
abbrev yei:List Par:= [.rd tA,.rd tI]
abbrev ymp:List OT:= [⟨false,tI,.fz⟩,⟨false,tI,.fz⟩]
def yiE (a0:dA) (a1:Int):Option (ResD ymp×MutD yei) :=
  let r1:=ygr a0 a1
  bif (r1 !=0) then
    some ((0,r1,()),())
  else
    let r2:=yh8 a0.2.1 a1
    let r3:=yfD a0 r2
    bif (!r3.2) then
      some ((0,5,()),())
    else
      let r4:=yjT a0.2.1 a1
      bif (inb r4 r3.1.length) then
        some (((nth r3.1 r4 0),0,()),())
      else none
theorem yOZ (x:InD yei):zjH ⟨yA7,33,yIT⟩ Tryz.f77.results.toList yAu yei ymp x=yiE x.1 x.2.1:=by kernel_rfl
theorem yKf:ConOk Tryz.prog 77 ⟨yei,ymp,fun x=>yiE x.1 x.2.1⟩:=zkh (yHG) Tryz.func77 (by kernel_rfl) (by kernel_rfl) Tryz.ntmps77.symm (by decide) (fun x r h=>(yOZ x).trans h)
def yh6 (a0:dA) (a1:Int):Int×Int:=yah a0 a1
theorem yM0 (a0:dA) (a1:Int) (hk:zi9 yei (a0,a1,())):yiE a0 a1=(fun n=>some ((n.1,n.2,()),())) (yh6 a0 a1):=by
  unfold yiE yh6 yah yh8 yjT
  simp only [yXt]
  cases hc:(yfm a0 a1 !=0)
  · obtain ⟨h1,h2,_⟩:=yUQ (bne_eq_false_iff_eq.1 hc)
    have hs:=yqg h2
    rw [yYK h1 hs]
    simp only [cond_false]
    cases hn:(yK a0 (yQ a0.2.1 a1)).2
    · rfl
    · have hl:=ylT h1 hs hn
      obtain ⟨_,_,h5⟩:=ykg h2
      have h6:ybm a0.2.1 a1=a1.tmod (a0.2.1.1 - 1):=by unfold ybm; rw [h2]; rfl
      rw [zjP.2 (show 0≤ybm a0.2.1 a1∧ybm a0.2.1 a1 < (yK a0 (yQ a0.2.1 a1)).1.length by omega)]; rfl
  · rfl
def yw8:Con:=⟨yei,ymp,fun x=>(fun n=>some ((n.1,n.2,()),())) (yh6 x.1 x.2.1)⟩
theorem yNG:ConOk Tryz.prog 77 yw8:=(yKf).mono (fun x r hk h=>(yM0 x.1 x.2.1 hk).trans h)
end
section
def yg0:Code:=(Tryz.f37.body).getD .skip
def ymf:Env:=zki TT [(77,yw8),(120,ytt)] []
theorem yHE:FrOk Tryz.prog ⟨ymf,28,fun _=>none⟩ yg0:=zkp yc yd ⟨yNG,yEk,trivial⟩
def ywK:Nat→Option Seg:=fun _=>none
def yaV:Shape:=⟨[(1,false,[.ptr 0 0]),(3,false,[.at 800000000]),(10,false,[.int .i64]),(11,false,[.int .i64])],[(0,[.int .i64,.int .i64,.int .i64,.br tM,.int .i64,.int .i64,.int .i64,.int .i64,.int .i64,.br tW,.int .i64,.bool,.bool])],[(800000000,tI,.fz)]⟩
def yd1:Shape:=⟨[(1,false,[.ptr 0 0]),(3,false,[.at 800000000]),(10,false,[.int .i64]),(11,false,[.ci .i64 0])],[(0,[.int .i64,.int .i64,.int .i64,.br tM,.int .i64,.int .i64,.int .i64,.int .i64,.int .i64,.br tW,.int .i64,.bool,.bool])],[(800000000,tI,.fz)]⟩
def ydX:Shape:=⟨[(3,false,[.at 800000000])],[],[(800000000,tI,.fz)]⟩
def yd5:Shape:=⟨[(2,false,[.nil])],[],[]⟩
abbrev yl7 (v0:Int) (v1:Int) (v2:dA) (v3:List Int):(yaV).X:=((((),()),((),()),(v0,()),(v1,()),()),((v2.1,v2.2.1.1,v2.2.1.2,v2.2.2.1,v2.2.2.2.1,v2.2.2.2.2.1,v2.2.2.2.2.2.1,v2.2.2.2.2.2.2.1,v2.2.2.2.2.2.2.2.1,v2.2.2.2.2.2.2.2.2.1,v2.2.2.2.2.2.2.2.2.2.1,v2.2.2.2.2.2.2.2.2.2.2.1,v2.2.2.2.2.2.2.2.2.2.2.2,()),()),(v3,()))
abbrev yGA (v0:Int) (v1:dA) (v2:List Int):(yd1).X:=((((),()),((),()),(v0,()),((),()),()),((v1.1,v1.2.1.1,v1.2.1.2,v1.2.2.1,v1.2.2.2.1,v1.2.2.2.2.1,v1.2.2.2.2.2.1,v1.2.2.2.2.2.2.1,v1.2.2.2.2.2.2.2.1,v1.2.2.2.2.2.2.2.2.1,v1.2.2.2.2.2.2.2.2.2.1,v1.2.2.2.2.2.2.2.2.2.2.1,v1.2.2.2.2.2.2.2.2.2.2.2,()),()),(v2,()))
abbrev yuB (v0:List Int):(ydX).X:=((((),()),()),(),(v0,()))
abbrev yGE  :(yd5).X:=((((),()),()),(),())
def ymb (v0:Int) (v1:Int) (v2:Int) (v3:Int) (v4:Int) (v5:List dM) (v6:Int) (v7:Int) (v8:Int) (v9:Int) (v10:Int) (v11:List dW) (v12:Int) (v13:Bool) (v14:Bool) (v15:List Int):Option ((yaV).X ⊕ ((ydX).X ⊕ (yd5).X)) :=
  bif (ltb v1 v0) then
    let r3:=yh6 (v2,(v3,v4),v5,v6,v7,v8,v9,v10,v11,v12,v13,v14) v1
    bif (r3.2 !=0) then
      some (.inr (.inr ((((),()),()),(),())))
    else
      bif (zj4 v15.length ([r3.1]:List Int).length 8) then
        some (.inl ((((),()),((),()),(v0,()),((IntKind.i64.wrap (v1+1)),()),()),((v2,v3,v4,v5,v6,v7,v8,v9,v10,v11,v12,v13,v14,()),()),((v15++([r3.1]:List Int)),())))
      else none
  else
    some (.inr (.inl ((((),()),()),(),(v15,()))))
def ya7 (x:(yaV).X):=ymb x.1.2.2.1.1 x.1.2.2.2.1.1 x.2.1.1.1 x.2.1.1.2.1 x.2.1.1.2.2.1 x.2.1.1.2.2.2.1 x.2.1.1.2.2.2.2.1 x.2.1.1.2.2.2.2.2.1 x.2.1.1.2.2.2.2.2.2.1 x.2.1.1.2.2.2.2.2.2.2.1 x.2.1.1.2.2.2.2.2.2.2.2.1 x.2.1.1.2.2.2.2.2.2.2.2.2.1 x.2.1.1.2.2.2.2.2.2.2.2.2.2.1 x.2.1.1.2.2.2.2.2.2.2.2.2.2.2.1 x.2.1.1.2.2.2.2.2.2.2.2.2.2.2.2.1 x.2.2.1
def yur (x:(yd1).X):(yaV).X:=((((),()),((),()),(x.1.2.2.1.1,()),(0,()),()),((x.2.1.1.1,x.2.1.1.2.1,x.2.1.1.2.2.1,x.2.1.1.2.2.2.1,x.2.1.1.2.2.2.2.1,x.2.1.1.2.2.2.2.2.1,x.2.1.1.2.2.2.2.2.2.1,x.2.1.1.2.2.2.2.2.2.2.1,x.2.1.1.2.2.2.2.2.2.2.2.1,x.2.1.1.2.2.2.2.2.2.2.2.2.1,x.2.1.1.2.2.2.2.2.2.2.2.2.2.1,x.2.1.1.2.2.2.2.2.2.2.2.2.2.2.1,x.2.1.1.2.2.2.2.2.2.2.2.2.2.2.2.1,()),()),(x.2.2.1,()))
def yvJ:Code:=(zdI yg0 64 116).getD .skip
theorem yHn:zdI yg0 64 29=some (.block 0 (.loop yvJ)):=by kernel_rfl
theorem yIy (x:(yaV).X):zg7 ⟨ymf,28,ywK⟩ 0 yvJ 116 yaV ydX yd5 x=ya7 x:=by kernel_rfl
def yuw (x:(yd1).X):Nat:=(fun (u0:Int) (u1:Int) (u2:Int) (u3:Int) (u4:List dM) (u5:Int) (u6:Int) (u7:Int) (u8:Int) (u9:Int) (u10:List dW) (u11:Int) (u12:Bool) (u13:Bool) (u14:List Int)=>18446744073709551616) x.1.2.2.1.1 x.2.1.1.1 x.2.1.1.2.1 x.2.1.1.2.2.1 x.2.1.1.2.2.2.1 x.2.1.1.2.2.2.2.1 x.2.1.1.2.2.2.2.2.1 x.2.1.1.2.2.2.2.2.2.1 x.2.1.1.2.2.2.2.2.2.2.1 x.2.1.1.2.2.2.2.2.2.2.2.1 x.2.1.1.2.2.2.2.2.2.2.2.2.1 x.2.1.1.2.2.2.2.2.2.2.2.2.2.1 x.2.1.1.2.2.2.2.2.2.2.2.2.2.2.1 x.2.1.1.2.2.2.2.2.2.2.2.2.2.2.2.1 x.2.2.1
def ynx (x:(yd1).X):Option ((ydX).X ⊕ (yd5).X):=zr ya7 (yuw x) (yur x)
def yuE:Seg:=⟨yd1,ydX,yd5,ynx⟩
def ywL:Nat→Option Seg:=fun q=>bif Nat.beq q 29 then some yuE else ywK q
theorem yHF:FrOk Tryz.prog ⟨ymf,28,ywL⟩ yg0:=(yHE).loop (sg:=yuE) yaV yur (by decide) yHn ya7 yuw (by decide) (fun _=>rfl) (fun x r _ h=>h) yIy
abbrev yeh:List Par:= [.rd tA]
abbrev ymo:List OT:= [⟨false,tL,(.ow .fz)⟩]
def yiD (a0:dA):Option (ResD ymo×MutD yeh) :=
  let r1:=ygW a0.2.1
  zjw (ynx ((((),()),((),()),(r1,()),((),()),()),((a0.1,a0.2.1.1,a0.2.1.2,a0.2.2.1,a0.2.2.2.1,a0.2.2.2.2.1,a0.2.2.2.2.2.1,a0.2.2.2.2.2.2.1,a0.2.2.2.2.2.2.2.1,a0.2.2.2.2.2.2.2.2.1,a0.2.2.2.2.2.2.2.2.2.1,a0.2.2.2.2.2.2.2.2.2.2.1,a0.2.2.2.2.2.2.2.2.2.2.2,()),()),(([]:List Int),()))) (fun y3 =>
    some ((y3.2.2.1,()),())) (fun y3 =>
    some (([],()),()))
theorem yOY (x:InD yeh):zjH ⟨ymf,28,ywL⟩ Tryz.f37.results.toList yg0 yeh ymo x=yiD x.1:=by kernel_rfl
theorem yKe:ConOk Tryz.prog 37 ⟨yeh,ymo,fun x=>yiD x.1⟩:=zkh (yHF) Tryz.func37 (by kernel_rfl) (by kernel_rfl) Tryz.ntmps37.symm (by decide) (fun x r h=>(yOY x).trans h)
def yh5 (a0:dA):List Int:=yEE a0
theorem yMZ (a0:dA) (hk:zi9 yeh (a0,())):yiD a0=(fun n=>some ((n,()),())) (yh5 a0):=by
  have hB:=yvm a0.2.1
  have h1:ynx (yGA (yf a0.2.1) a0 [])=some (bif (List.range (yf a0.2.1).toNat).all (fun (b:Nat)=> !((yah a0 b).2 !=0)) then .inl (yuB ((List.range (yf a0.2.1).toNat).foldl (fun l (b:Nat)=>l++ [(yah a0 b).1]) [])) else .inr yGE) :=
    zhx (step:=ya7) (yf a0.2.1).toNat (fun i s=>yl7 (yf a0.2.1) i a0 s) (fun (b:Nat)=> !((yah a0 b).2 !=0)) (fun l (b:Nat)=>l++ [(yah a0 b).1]) (fun i s=>s.length=i) (fun s=> .inl (yuB s)) _ (fun i s hi hs=>by
      refine ⟨?_,fun _=>by simp [hs]⟩
      simp only [ya7,yl7,ymb,zjI (show (i:Int) < yf a0.2.1 by omega),cond_true,wr (show -9223372036854775808≤(i:Int)+1 by omega) (by omega),Int.natCast_add,Int.natCast_one,Int.toNat_natCast,zkV,yh6,zkw.2 (show (s.length+ [(yah a0 i).1].length) * 8≤140737488355328 by simp only [List.length_cons,List.length_nil]; omega)]
      cases ((yah a0 i).2 !=0)<;>rfl) (fun s hs=>by simp only [ya7,yl7,ymb,zkm (show yf a0.2.1≤((yf a0.2.1).toNat:Int) by omega),cond_false]) [] rfl _ (by show _ < 18446744073709551616; omega)
  unfold yiD yh5 yEE
  simp only [yEf]
  rw [h1,ykz]
  cases (List.range (yf a0.2.1).toNat).all (fun (b:Nat)=> !((yah a0 b).2 !=0))<;>rfl
def yw7:Con:=⟨yeh,ymo,fun x=>(fun n=>some ((n,()),())) (yh5 x.1)⟩
theorem yNF:ConOk Tryz.prog 37 yw7:=(yKe).mono (fun x r hk h=>(yMZ x.1 hk).trans h)
end
section
def yFB:Code:=(Tryz.f175.body).getD .skip
def yGc:Env:=zki TT [(46,yfw),(121,yey),(135,yq)] []
theorem yMm:FrOk Tryz.prog ⟨yGc,20,fun _=>none⟩ yFB:=zkp yc yd ⟨ylL,yj9,yu,trivial⟩
def yOx:Nat→Option Seg:=fun _=>none
abbrev ylq:List Par:= [.rd tA,.rd tI]
abbrev yqY:List OT:= [⟨false,tI,.fz⟩]
def yuc (a0:dA) (a1:Int):Option (ResD yqY×MutD ylq) :=
  let r1:=yD a0
  bif (!r1) then
    some ((1,()),())
  else
    bif a0.2.2.2.2.2.2.2.2.2.2.1 then
      some ((6,()),())
    else
      let r2:=yf a0.2.1
      let r3:=ya a1 0 (IntKind.i64.wrap (r2 - 1))
      bif (!r3) then
        some ((2,()),())
      else
        some ((0,()),())
theorem yVZ (x:InD ylq):zjH ⟨yGc,20,yOx⟩ Tryz.f175.results.toList yFB ylq yqY x=yuc x.1 x.2.1:=by kernel_rfl
theorem yRt:ConOk Tryz.prog 175 ⟨ylq,yqY,fun x=>yuc x.1 x.2.1⟩:=zkh (yMm) Tryz.func175 (by kernel_rfl) (by kernel_rfl) Tryz.ntmps175.symm (by decide) (fun x r h=>(yVZ x).trans h)
def ylJ (a0:dA) (a1:Int):Int :=
  let r1:=yD a0
  bif (!r1) then
    1
  else
    bif a0.2.2.2.2.2.2.2.2.2.2.1 then
      6
    else
      let r2:=yf a0.2.1
      let r3:=ya a1 0 (IntKind.i64.wrap (r2 - 1))
      bif (!r3) then
        2
      else
        0
def yBY:Con:=⟨ylq,yqY,fun x=>(fun n=>some ((n,()),())) (ylJ x.1 x.2.1)⟩
theorem yTL (a0:dA) (a1:Int):yuc a0 a1=(fun n=>some ((n,()),())) (ylJ a0 a1):=zkS (p:=fun (n:Int)=>((n,()),())) (zkx (p:=fun (n:Int)=>((n,()),())) rfl (zkx (p:=fun (n:Int)=>((n,()),())) rfl (zkx (p:=fun (n:Int)=>((n,()),())) rfl rfl)))
theorem yUz:ConOk Tryz.prog 175 yBY:=(yRt).mono (fun x r _ h=>(yTL x.1 x.2.1).trans h)
theorem yXV (a:dA) (b:Int):ylJ a b=yfm a b:=by
  unfold ylJ yfm yD
  simp only [yOR]
  cases yo a<;>cases a.2.2.2.2.2.2.2.2.2.2.1<;>cases blkOk a.2.1 b<;>rfl
end
end
end Go.Tf
