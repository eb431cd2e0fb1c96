/- Functions of the program, and what they come to. -/
import Derived.Test.YtcpidpnglekceaaGreatWordsBentF15
namespace Go.Tf
noncomputable section
open Go.Proofs
set_option synthInstance.maxHeartbeats 400000
set_option synthInstance.maxSize 10000
set_option linter.unusedVariables false
set_option linter.unusedSimpArgs false
set_option maxRecDepth 100000
section
def ykz:Code:=(Tryz.f170.body).getD .skip
def yo1:Env:=zki TT [] []
theorem yH1:FrOk Tryz.prog ⟨yo1,17,fun _=>none⟩ ykz:=zkp ye yf trivial
def yxL:Nat→Option Seg:=fun _=>none
def ybS:Shape:=⟨[(3,false,[.int .i64]),(6,false,[.br tI]),(7,false,[.int .i64]),(8,false,[.int .i64])],[],[]⟩
def yfW:Shape:=⟨[(3,false,[.ci .i64 0]),(6,false,[.br tI]),(7,false,[.int .i64]),(8,false,[.ci .i64 0])],[],[]⟩
def yfF:Shape:=⟨[(3,false,[.int .i64])],[],[]⟩
def yjV:Shape:=⟨[],[],[]⟩
abbrev yof (v0:Int) (v1:List Int) (v2:Int) (v3:Int):(ybS).X:=(((v0,()),(v1,()),(v2,()),(v3,()),()),(),())
abbrev yFC (v0:List Int) (v1:Int):(yfW).X:=((((),()),(v0,()),(v1,()),((),()),()),(),())
abbrev yu3 (v0:Int):(yfF).X:=(((v0,()),()),(),())
def yoz (v0:Int) (v1:List Int) (v2:Int) (v3:Int):Option ((ybS).X ⊕ ((yfF).X ⊕ (yjV).X)) :=
  bif (ltb v3 v2) then
    bif (inb v3 v1.length) then
      some (.inl ((((IntKind.i64.wrap ((BitVec.ofInt IntKind.i64.bits v0 ^^^ BitVec.ofInt IntKind.i64.bits (nth v1 v3 0)).toNat:Int)),()),(v1,()),(v2,()),((IntKind.i64.wrap (v3+1)),()),()),(),()))
    else none
  else
    some (.inr (.inl (((v0,()),()),(),())))
def yci (x:(ybS).X):=yoz x.1.1.1 x.1.2.1.1 x.1.2.2.1.1 x.1.2.2.2.1.1
def yuv (x:(yfW).X):(ybS).X:=(((0,()),(x.1.2.1.1,()),(x.1.2.2.1.1,()),(0,()),()),(),())
def ywv:Code:=(zdI ykz 64 116).getD .skip
theorem yHl:zdI ykz 64 29=some (.block 0 (.loop ywv)):=by kernel_rfl
theorem yJ1 (x:(ybS).X):zg7 ⟨yo1,17,yxL⟩ 0 ywv 116 ybS yfF yjV x=yci x:=by kernel_rfl
def yuN (x:(yfW).X):Nat:=(fun (u0:List Int) (u1:Int)=>18446744073709551616) x.1.2.1.1 x.1.2.2.1.1
def ypg (x:(yfW).X):Option ((yfF).X ⊕ (yjV).X):=zr yci (yuN x) (yuv x)
def yvo:Seg:=⟨yfW,yfF,yjV,ypg⟩
def yxM:Nat→Option Seg:=fun q=>bif Nat.beq q 29 then some yvo else yxL q
theorem yH2:FrOk Tryz.prog ⟨yo1,17,yxM⟩ ykz:=(yH1).loop (sg:=yvo) ybS yuv (by decide) yHl yci yuN (by decide) (fun _=>rfl) (fun x r _ h=>h) yJ1
abbrev yhh:List Par:= [.rd tL]
abbrev ypz:List OT:= [⟨false,tI,.fz⟩]
def ylX (a0:List Int):Option (ResD ypz×MutD yhh) :=
  zjw (ypg ((((),()),(a0,()),((a0.length:Int),()),((),()),()),(),())) (fun y0 =>
    some ((y0.1.1.1,()),())) (fun y0 =>
    none)
theorem yOs (x:InD yhh):zjH ⟨yo1,17,yxM⟩ Tryz.f170.results.toList ykz yhh ypz x=ylX x.1:=by kernel_rfl
theorem yLz:ConOk Tryz.prog 170 ⟨yhh,ypz,fun x=>ylX x.1⟩:=zkh (yH2) Tryz.func170 (by kernel_rfl) (by kernel_rfl) Tryz.ntmps170.symm (by decide) (fun x r h=>(yOs x).trans h)
def yeX (a0:List Int):Int:=yiD a0
theorem yNB (a0:List Int) (hk:zi9 yhh (a0,())):ylX a0=(fun n=>some ((n,()),())) (yeX a0):=by
  have hb:a0.length * 8≤2 ^ 47:=hk.1.1
  have h1:ypg (yFC a0 a0.length)=some (.inl (yu3 (yiD a0))) :=
    zkk (step:=yci) a0 0 (fun i s=>yof s a0 a0.length i) xw (fun _ _=>True) (fun s=> .inl (yu3 s)) (fun i s hi _=>⟨by
      simp only [yci,yof,yoz,zjI (show (i:Int) < a0.length by omega),cond_true,wr (show -9223372036854775808≤(i:Int)+1 by omega) (by omega),Int.natCast_add,Int.natCast_one,Int.toNat_natCast,zkO hi,zjW]; rfl,trivial⟩) (fun s _=>by simp only [yci,yof,yoz,zkm (Int.le_refl _),cond_false]) 0 trivial _ (by show _ < 18446744073709551616; omega)
  unfold ylX yeX
  rw [h1]; rfl
def yq0:Con:=⟨yhh,ypz,fun x=>(fun n=>some ((n,()),())) (yeX x.1)⟩
theorem yAo:ConOk Tryz.prog 170 yq0:=(yLz).mono (fun x r hk h=>(yNB x.1 hk).trans h)
end
section
def yrw:Code:=(Tryz.f166.body).getD .skip
def yrA:Env:=zki TT [(131,yK),(170,yq0)] []
theorem yyG:FrOk Tryz.prog ⟨yrA,20,fun _=>none⟩ yrw:=zkp ye yf ⟨yaa,yAo,trivial⟩
def yyZ:Nat→Option Seg:=fun _=>none
abbrev ybj:List Par:= [.rd tL,.rd tI]
abbrev yf8:List OT:= [⟨false,tI,.fz⟩]
def ydU (a0:List Int) (a1:Int):Option (ResD yf8×MutD ybj) :=
  let r1:=yeX a0
  let r2:=yl a1 0 (IntKind.i64.wrap ((a0.length:Int) - 1))
  bif r2 then
    bif (inb a1 a0.length) then
      some (((IntKind.i64.wrap ((BitVec.ofInt IntKind.i64.bits r1 ^^^ BitVec.ofInt IntKind.i64.bits (nth a0 a1 0)).toNat:Int)),()),())
    else none
  else
    some ((r1,()),())
theorem yBv (x:InD ybj):zjH ⟨yrA,20,yyZ⟩ Tryz.f166.results.toList yrw ybj yf8 x=ydU x.1 x.2.1:=by kernel_rfl
theorem yzk:ConOk Tryz.prog 166 ⟨ybj,yf8,fun x=>ydU x.1 x.2.1⟩:=zkh (yyG) Tryz.func166 (by kernel_rfl) (by kernel_rfl) Tryz.ntmps166.symm (by decide) (fun x r h=>(yBv x).trans h)
def yc7 (a0:List Int) (a1:Int):Int:=yk4 a0 a1
theorem yAG (a0:List Int) (a1:Int) (hk:zi9 ybj (a0,a1,())):ydU a0 a1=(fun n=>some ((n,()),())) (yc7 a0 a1):=by
  have hb:a0.length * 8≤2 ^ 47:=hk.1.1
  unfold ydU yc7 yk4 yeX
  rw [yat,ymW (show a0.length≤1152921504606846976 by omega)]
  cases inb a1 a0.length<;>rfl
def ypT:Con:=⟨ybj,yf8,fun x=>(fun n=>some ((n,()),())) (yc7 x.1 x.2.1)⟩
theorem yAL:ConOk Tryz.prog 166 ypT:=(yzk).mono (fun x r hk h=>(yAG x.1 x.2.1 hk).trans h)
end
section
def ykx:Code:=(Tryz.f60.body).getD .skip
def yoZ:Env:=zki TT [(78,yqW),(117,ybt),(165,yj3),(166,ypT)] []
theorem yHX:FrOk Tryz.prog ⟨yoZ,62,fun _=>none⟩ ykx:=zkp ye yf ⟨yAk,ydQ,yq5,yAL,trivial⟩
def yxH:Nat→Option Seg:=fun _=>none
def ya7:Shape:=⟨[(1,false,[.int .i64]),(2,false,[.ptr 0 0]),(6,false,[.at 800000000]),(7,false,[.int .i64]),(28,false,[.int .i64]),(29,false,[.int .i64])],[(0,[.int .i64,.int .i64,.int .i64,.br tM,.int .i64,.int .i64,.int .i64,.int .i64,.int .i64,.br tW,.int .i64,.bool,.bool])],[(800000000,tI,.fz)]⟩
def yeD:Shape:=⟨[(1,false,[.int .i64]),(2,false,[.ptr 0 0]),(6,false,[.at 800000000]),(7,false,[.ci .i64 (-1)]),(28,false,[.int .i64]),(29,false,[.ci .i64 0])],[(0,[.int .i64,.int .i64,.int .i64,.br tM,.int .i64,.int .i64,.int .i64,.int .i64,.int .i64,.br tW,.int .i64,.bool,.bool])],[(800000000,tI,.fz)]⟩
def yeq:Shape:=⟨[(6,false,[.at 800000000]),(7,false,[.int .i64])],[],[(800000000,tI,.fz)]⟩
def yeP:Shape:=⟨[(4,false,[.nil]),(5,false,[.bool])],[],[]⟩
abbrev ymq (v0:Int) (v1:Int) (v2:Int) (v3:Int) (v4:dA) (v5:List Int):(ya7).X:=(((v0,()),((),()),((),()),(v1,()),(v2,()),(v3,()),()),((v4.1,v4.2.1.1,v4.2.1.2,v4.2.2.1,v4.2.2.2.1,v4.2.2.2.2.1,v4.2.2.2.2.2.1,v4.2.2.2.2.2.2.1,v4.2.2.2.2.2.2.2.1,v4.2.2.2.2.2.2.2.2.1,v4.2.2.2.2.2.2.2.2.2.1,v4.2.2.2.2.2.2.2.2.2.2.1,v4.2.2.2.2.2.2.2.2.2.2.2,()),()),(v5,()))
abbrev yDh (v0:Int) (v1:Int) (v2:dA) (v3:List Int):(yeD).X:=(((v0,()),((),()),((),()),((),()),(v1,()),((),()),()),((v2.1,v2.2.1.1,v2.2.1.2,v2.2.2.1,v2.2.2.2.1,v2.2.2.2.2.1,v2.2.2.2.2.2.1,v2.2.2.2.2.2.2.1,v2.2.2.2.2.2.2.2.1,v2.2.2.2.2.2.2.2.2.1,v2.2.2.2.2.2.2.2.2.2.1,v2.2.2.2.2.2.2.2.2.2.2.1,v2.2.2.2.2.2.2.2.2.2.2.2,()),()),(v3,()))
abbrev yC9 (v0:Int) (v1:List Int):(yeq).X:=((((),()),(v0,()),()),(),(v1,()))
abbrev yDs (v0:Bool):(yeP).X:=((((),()),(v0,()),()),(),())
def ymD (v0:Int) (v1:Int) (v2:Int) (v3:Int) (v4:Int) (v5:Int) (v6:Int) (v7:List dM) (v8:Int) (v9:Int) (v10:Int) (v11:Int) (v12:Int) (v13:List dW) (v14:Int) (v15:Bool) (v16:Bool) (v17:List Int):Option ((ya7).X ⊕ ((yeq).X ⊕ (yeP).X)) :=
  bif (ltb v3 v2) then
    bnd (yfq (v4,(v5,v6),v7,v8,v9,v10,v11,v12,v13,v14,v15,v16) v3 v0) fun r4 =>
    bif (!r4.1.2.1) then
      bif (leb 0 v1) then
        some (.inr (.inr ((((),()),(false,()),()),(),())))
      else
        bif (!r4.1.2.1) then
          bif (zj4 v17.length ([r4.1.1]:List Int).length 8) then
            some (.inl (((v0,()),((),()),((),()),(v3,()),(v2,()),((IntKind.i64.wrap (v3+1)),()),()),((v4,v5,v6,v7,v8,v9,v10,v11,v12,v13,v14,v15,v16,()),()),((v17++([r4.1.1]:List Int)),())))
          else none
        else
          bif (zj4 v17.length ([r4.1.1]:List Int).length 8) then
            some (.inl (((v0,()),((),()),((),()),(v1,()),(v2,()),((IntKind.i64.wrap (v3+1)),()),()),((v4,v5,v6,v7,v8,v9,v10,v11,v12,v13,v14,v15,v16,()),()),((v17++([r4.1.1]:List Int)),())))
          else none
    else
      bif (!r4.1.2.1) then
        bif (zj4 v17.length ([r4.1.1]:List Int).length 8) then
          some (.inl (((v0,()),((),()),((),()),(v3,()),(v2,()),((IntKind.i64.wrap (v3+1)),()),()),((v4,v5,v6,v7,v8,v9,v10,v11,v12,v13,v14,v15,v16,()),()),((v17++([r4.1.1]:List Int)),())))
        else none
      else
        bif (zj4 v17.length ([r4.1.1]:List Int).length 8) then
          some (.inl (((v0,()),((),()),((),()),(v1,()),(v2,()),((IntKind.i64.wrap (v3+1)),()),()),((v4,v5,v6,v7,v8,v9,v10,v11,v12,v13,v14,v15,v16,()),()),((v17++([r4.1.1]:List Int)),())))
        else none
  else
    some (.inr (.inl ((((),()),(v1,()),()),(),(v17,()))))
def ybB (x:(ya7).X):=ymD x.1.1.1 x.1.2.2.2.1.1 x.1.2.2.2.2.1.1 x.1.2.2.2.2.2.1.1 x.2.1.1.1 x.2.1.1.2.1 x.2.1.1.2.2.1 x.2.1.1.2.2.2.1 x.2.1.1.2.2.2.2.1 x.2.1.1.2.2.2.2.2.1 x.2.1.1.2.2.2.2.2.2.1 x.2.1.1.2.2.2.2.2.2.2.1 x.2.1.1.2.2.2.2.2.2.2.2.1 x.2.1.1.2.2.2.2.2.2.2.2.2.1 x.2.1.1.2.2.2.2.2.2.2.2.2.2.1 x.2.1.1.2.2.2.2.2.2.2.2.2.2.2.1 x.2.1.1.2.2.2.2.2.2.2.2.2.2.2.2.1 x.2.2.1
def ysP (x:(yeD).X):(ya7).X:=(((x.1.1.1,()),((),()),((),()),((-1),()),(x.1.2.2.2.2.1.1,()),(0,()),()),((x.2.1.1.1,x.2.1.1.2.1,x.2.1.1.2.2.1,x.2.1.1.2.2.2.1,x.2.1.1.2.2.2.2.1,x.2.1.1.2.2.2.2.2.1,x.2.1.1.2.2.2.2.2.2.1,x.2.1.1.2.2.2.2.2.2.2.1,x.2.1.1.2.2.2.2.2.2.2.2.1,x.2.1.1.2.2.2.2.2.2.2.2.2.1,x.2.1.1.2.2.2.2.2.2.2.2.2.2.1,x.2.1.1.2.2.2.2.2.2.2.2.2.2.2.1,x.2.1.1.2.2.2.2.2.2.2.2.2.2.2.2.1,()),()),(x.2.2.1,()))
def yt2:Code:=(zdI ykx 64 500).getD .skip
theorem yEd:zdI ykx 64 125=some (.block 0 (.loop yt2)):=by kernel_rfl
theorem yGA (x:(ya7).X):zg7 ⟨yoZ,62,yxH⟩ 0 yt2 500 ya7 yeq yeP x=ybB x:=by kernel_rfl
def ys2 (x:(yeD).X):Nat:=(fun (u0:Int) (u1:Int) (u2:Int) (u3:Int) (u4:Int) (u5:List dM) (u6:Int) (u7:Int) (u8:Int) (u9:Int) (u10:Int) (u11:List dW) (u12:Int) (u13:Bool) (u14:Bool) (u15:List Int)=>18446744073709551616) x.1.1.1 x.1.2.2.2.2.1.1 x.2.1.1.1 x.2.1.1.2.1 x.2.1.1.2.2.1 x.2.1.1.2.2.2.1 x.2.1.1.2.2.2.2.1 x.2.1.1.2.2.2.2.2.1 x.2.1.1.2.2.2.2.2.2.1 x.2.1.1.2.2.2.2.2.2.2.1 x.2.1.1.2.2.2.2.2.2.2.2.1 x.2.1.1.2.2.2.2.2.2.2.2.2.1 x.2.1.1.2.2.2.2.2.2.2.2.2.2.1 x.2.1.1.2.2.2.2.2.2.2.2.2.2.2.1 x.2.1.1.2.2.2.2.2.2.2.2.2.2.2.2.1 x.2.2.1
def ynU (x:(yeD).X):Option ((yeq).X ⊕ (yeP).X):=zr ybB (ys2 x) (ysP x)
def ytk:Seg:=⟨yeD,yeq,yeP,ynU⟩
def yxI:Nat→Option Seg:=fun q=>bif Nat.beq q 125 then some ytk else yxH q
theorem yHY:FrOk Tryz.prog ⟨yoZ,62,yxI⟩ ykx:=(yHX).loop (sg:=ytk) ya7 ysP (by decide) yEd ybB ys2 (by decide) (fun _=>rfl) (fun x r _ h=>h) yGA
abbrev yhf:List Par:= [.rd tA,.rd tI]
abbrev ypx:List OT:= [⟨false,tL,(.ow .fz)⟩,⟨false,tB,.fz⟩]
def ylV (a0:dA) (a1:Int):Option (ResD ypx×MutD yhf) :=
  let r1:=yeU a0
  bif (!(!r1)) then
    bif (!a0.2.2.2.2.2.2.2.2.2.2.2) then
      let r2:=yN a0.2.1 a1
      bif (!r2) then
        some (([],false,()),())
      else
        zjw (ynU (((a1,()),((),()),((),()),((),()),((a0.2.2.1.length:Int),()),((),()),()),((a0.1,a0.2.1.1,a0.2.1.2,a0.2.2.1,a0.2.2.2.1,a0.2.2.2.2.1,a0.2.2.2.2.2.1,a0.2.2.2.2.2.2.1,a0.2.2.2.2.2.2.2.1,a0.2.2.2.2.2.2.2.2.1,a0.2.2.2.2.2.2.2.2.2.1,a0.2.2.2.2.2.2.2.2.2.2.1,a0.2.2.2.2.2.2.2.2.2.2.2,()),()),(([]:List Int),()))) (fun y4 =>
          bif (leb 0 y4.1.2.1.1) then
            let r6:=yc7 y4.2.2.1 y4.1.2.1.1
            bif (inb y4.1.2.1.1 y4.2.2.1.length) then
              some (((y4.2.2.1.set (y4.1.2.1.1).toNat r6),true,()),())
            else none
          else
            some ((y4.2.2.1,true,()),())) (fun y4 =>
          some (([],y4.1.2.1.1,()),()))
    else
      some (([],false,()),())
  else
    some (([],false,()),())
theorem yOq (x:InD yhf):zjH ⟨yoZ,62,yxI⟩ Tryz.f60.results.toList ykx yhf ypx x=ylV x.1 x.2.1:=by kernel_rfl
theorem yLx:ConOk Tryz.prog 60 ⟨yhf,ypx,fun x=>ylV x.1 x.2.1⟩:=zkh (yHY) Tryz.func60 (by kernel_rfl) (by kernel_rfl) Tryz.ntmps60.symm (by decide) (fun x r h=>(yOq x).trans h)
def yeW (a0:dA) (a1:Int):List Int×Bool:=bif yv a0&&(!a0.2.2.2.2.2.2.2.2.2.2.2&&yS a0.2.1 a1) then yH a0 a1 else ([],false)
theorem yNz (a0:dA) (a1:Int) (hk:zi9 yhf (a0,a1,())):ylV a0 a1=(fun n=>some ((n.1,n.2,()),())) (yeW a0 a1):=by
  unfold ylV yeW yeU
  rw [yxk]
  cases ha:yv a0
  · rfl
  have hg:=yn.1 (yac ha)
  have hl:=yrD ha
  have h1:ynU (yDh a1 a0.2.2.1.length a0 [])=some (bif yzc (fun (i:Nat)=>ym a0 i a1) a0.2.1.1.toNat then .inr (yDs false) else .inl (yC9 (yF (fun (i:Nat)=>ym a0 i a1) a0.2.1.1.toNat) (yO a0 a1 a0.2.1.1.toNat))) :=
    zf4 (step:=ybB) (fun i=>ymq a1 (yF (fun (i:Nat)=>ym a0 i a1) i) a0.2.2.1.length i a0 (yO a0 a1 i)) a0.2.1.1.toNat (fun i=> !ym a0 i a1&&leb 0 (yF (fun (i:Nat)=>ym a0 i a1) i)) _ _ (fun i hi=>by
      simp only [ybB,ymq,ymD,zjI (show (i:Int) < a0.2.2.1.length by omega),cond_true,wr (show -9223372036854775808≤(i:Int)+1 by omega) (by omega),Int.natCast_add,Int.natCast_one,Int.toNat_natCast,zkV,yrc a0 i a1 (zkO (show i < a0.2.2.1.length by omega)),ydx,zky,yF]
      rw [zkw.2 (show ((yO a0 a1 i).length+ [yjF a0 i a1].length) * 8≤140737488355328 by simp only [List.length_cons,List.length_nil,ylq]; omega),yAu]
      cases ym a0 i a1<;>cases leb 0 (yF (fun (i:Nat)=>ym a0 i a1) i)<;>rfl) (by simp only [ybB,ymq,ymD,zkm (show (a0.2.2.1.length:Int)≤(a0.2.1.1.toNat:Int) by omega),cond_false]) _ (by show _ < 18446744073709551616; omega)
  rw [h1]
  cases a0.2.2.2.2.2.2.2.2.2.2.2
  · cases yS a0.2.1 a1
    · rfl
    · unfold yH
      cases yzc (fun (i:Nat)=>ym a0 i a1) a0.2.1.1.toNat
      · simp only [cond_false,zkJ,yc7]
        cases hm:leb 0 (yF (fun (i:Nat)=>ym a0 i a1) a0.2.1.1.toNat)
        · rfl
        · obtain ⟨h2,h3⟩:=yMH a0 a1 a0.2.1.1.toNat hm
          rw [h2,h3]; rfl
      · rfl
  · rfl
def yqZ:Con:=⟨yhf,ypx,fun x=>(fun n=>some ((n.1,n.2,()),())) (yeW x.1 x.2.1)⟩
theorem yAn:ConOk Tryz.prog 60 yqZ:=(yLx).mono (fun x r hk h=>(yNz x.1 x.2.1 hk).trans h)
end
section
def yAY:Code:=(Tryz.f61.body).getD .skip
def yBf:Env:=zki TT [(83,yhI),(115,yq),(167,yii)] []
theorem yIb:FrOk Tryz.prog ⟨yBf,28,fun _=>none⟩ yAY:=zkp ye yf ⟨ynQ,yu,yqe,trivial⟩
def yKo:Nat→Option Seg:=fun _=>none
abbrev yhn:List Par:= [.rd tA,.rd tI]
abbrev ypF:List OT:= [⟨false,tL,(.ow .fz)⟩,⟨false,tB,.fz⟩]
def yl0 (a0:dA) (a1:Int):Option (ResD ypF×MutD yhn) :=
  let r1:=yak a0
  bif (!(!r1)) then
    bif (!a0.2.2.2.2.2.2.2.2.2.2.2) then
      let r2:=yb a1 0 (IntKind.i64.wrap (a0.2.1.2 - 1))
      bif (!r2) then
        some ((([]:List Int),false,()),())
      else
        bnd (yd9 a0 a1) fun r3 =>
        some ((r3.1.1,r3.1.2.1,()),())
    else
      some ((([]:List Int),false,()),())
  else
    some ((([]:List Int),false,()),())
theorem yOy (x:InD yhn):zjH ⟨yBf,28,yKo⟩ Tryz.f61.results.toList yAY yhn ypF x=yl0 x.1 x.2.1:=by kernel_rfl
theorem yLF:ConOk Tryz.prog 61 ⟨yhn,ypF,fun x=>yl0 x.1 x.2.1⟩:=zkh (yIb) Tryz.func61 (by kernel_rfl) (by kernel_rfl) Tryz.ntmps61.symm (by decide) (fun x r h=>(yOy x).trans h)
def yld (a0:dA) (a1:Int):List Int×Bool:=bif yv a0&&(!a0.2.2.2.2.2.2.2.2.2.2.2&&yS a0.2.1 a1) then yH a0 a1 else ([],false)
theorem yNH (a0:dA) (a1:Int) (hk:zi9 yhn (a0,a1,())):yl0 a0 a1=(fun n=>some ((n.1,n.2,()),())) (yld a0 a1):=by
  unfold yl0 yld
  simp only [yak,yaL]
  cases ha:yv a0
  · rfl
  have hg:=yn.1 (yac ha)
  cases hb:a0.2.2.2.2.2.2.2.2.2.2.2
  · rw [wr (show -9223372036854775808≤a0.2.1.2 - 1 by omega) (by omega),show yS a0.2.1 a1=(leb 0 a1&&leb a1 (a0.2.1.2 - 1)) by unfold yS; rw [yac ha]; rfl]
    cases (leb 0 a1&&leb a1 (a0.2.1.2 - 1))
    · rfl
    · rw [yqf a0 a1 (yac ha)]; rfl
  · rfl
def yyq:Con:=⟨yhn,ypF,fun x=>(fun n=>some ((n.1,n.2,()),())) (yld x.1 x.2.1)⟩
theorem yNX:ConOk Tryz.prog 61 yyq:=(yLF).mono (fun x r hk h=>(yNH x.1 x.2.1 hk).trans h)
end
section
def yvF:Code:=(Tryz.f226.body).getD .skip
def ywe:Env:=zki TT [(117,ybt)] []
theorem yBC:FrOk Tryz.prog ⟨ywe,17,fun _=>none⟩ yvF:=zkp ye yf ⟨ydQ,trivial⟩
def yCs:Nat→Option Seg:=fun _=>none
abbrev ydd:List Par:= [.rd tG,.rd tI]
abbrev yjL:List OT:= [⟨false,tI,.fz⟩]
def ygT (a0:dG) (a1:Int):Option (ResD yjL×MutD ydd) :=
  let r1:=yN a0 a1
  bif (!r1) then
    some (((-1),()),())
  else
    bif (a0.1 !=0) then
      some (((IntKind.i64.wrap ((IntKind.i64.wrap (a0.1 - 1)) - (a1.tmod a0.1))),()),())
    else none
theorem yHB (x:InD ydd):zjH ⟨ywe,17,yCs⟩ Tryz.f226.results.toList yvF ydd yjL x=ygT x.1 x.2.1:=by kernel_rfl
theorem yDx:ConOk Tryz.prog 226 ⟨ydd,yjL,fun x=>ygT x.1 x.2.1⟩:=zkh (yBC) Tryz.func226 (by kernel_rfl) (by kernel_rfl) Tryz.ntmps226.symm (by decide) (fun x r h=>(yHB x).trans h)
def ygs (a0:dG) (a1:Int):Int:=yp a0 a1
theorem yFY (a0:dG) (a1:Int) (hk:zi9 ydd (a0,a1,())):ygT a0 a1=(fun n=>some ((n,()),())) (ygs a0 a1):=by
  unfold ygT ygs
  rw [yxk]
  cases hs:yS a0 a1
  · unfold yp; rw [hs]; rfl
  · have h1:=ycy.1 hs
    have h2:=yn.1 h1.1
    have h3:=yoP hs
    have h4:yp a0 a1=a0.1 - 1 - a1.tmod a0.1:=by unfold yp; rw [hs]; rfl
    rw [show (a0.1 !=0)=true from bne_iff_ne.2 (by omega),wr (show -9223372036854775808≤a0.1 - 1 by omega) (by omega),wr (show -9223372036854775808≤a0.1 - 1 - a1.tmod a0.1 by omega) (by omega),h4]; rfl
def ysI:Con:=⟨ydd,yjL,fun x=>(fun n=>some ((n,()),())) (ygs x.1 x.2.1)⟩
theorem yGr:ConOk Tryz.prog 226 ysI:=(yDx).mono (fun x r hk h=>(yFY x.1 x.2.1 hk).trans h)
end
section
def yzv:Code:=(Tryz.f168.body).getD .skip
def yzW:Env:=zki TT [(117,ybt),(131,yK),(226,ysI)] []
theorem yEz:FrOk Tryz.prog ⟨yzW,28,fun _=>none⟩ yzv:=zkp ye yf ⟨ydQ,yaa,yGr,trivial⟩
def yGR:Nat→Option Seg:=fun _=>none
abbrev yfa:List Par:= [.rd tG,.rd tI,.rd tI]
abbrev yng:List OT:= [⟨false,tI,.fz⟩]
def yke (a0:dG) (a1:Int) (a2:Int):Option (ResD yng×MutD yfa) :=
  let r1:=yN a0 a1
  bif (!(!r1)) then
    let r2:=yl a2 0 (IntKind.i64.wrap (a0.1 - 2))
    bif (!r2) then
      some (((-1),()),())
    else
      let r3:=ygs a0 a1
      bif (a0.1 !=0) then
        some ((((IntKind.i64.wrap ((IntKind.i64.wrap (r3+1))+a2)).tmod a0.1),()),())
      else none
  else
    some (((-1),()),())
theorem yMU (x:InD yfa):zjH ⟨yzW,28,yGR⟩ Tryz.f168.results.toList yzv yfa yng x=yke x.1 x.2.1 x.2.2.1:=by kernel_rfl
theorem yI6:ConOk Tryz.prog 168 ⟨yfa,yng,fun x=>yke x.1 x.2.1 x.2.2.1⟩:=zkh (yEz) Tryz.func168 (by kernel_rfl) (by kernel_rfl) Tryz.ntmps168.symm (by decide) (fun x r h=>(yMU x).trans h)
def yje (a0:dG) (a1 a2:Int):Int:=ycI a0 a1 a2
theorem yKZ (a0:dG) (a1 a2:Int) (hk:zi9 yfa (a0,a1,a2,())):yke a0 a1 a2=(fun n=>some ((n,()),())) (yje a0 a1 a2):=by
  unfold yke yje ycI ygs
  rw [yxk]
  cases hs:yS a0 a1
  · rfl
  · have h1:=ycy.1 hs
    have h2:=yn.1 h1.1
    have h3:=yoP hs
    rw [yat,yaL,wr (show -9223372036854775808≤a0.1 - 2 by omega) (by omega)]
    cases hi:(leb 0 a2&&leb a2 (a0.1 - 2))
    · rfl
    · rw [Bool.and_eq_true,zjQ,zjQ]at hi
      rw [show (a0.1 !=0)=true from bne_iff_ne.2 (by omega)]
      show some (((IntKind.i64.wrap (IntKind.i64.wrap (yp a0 a1+1)+a2)).tmod a0.1,()),())=some (((yp a0 a1+1+a2).tmod a0.1,()),())
      rw [wr (show -9223372036854775808≤yp a0 a1+1 by omega) (by omega),wr (show -9223372036854775808≤yp a0 a1+1+a2 by omega) (by omega)]
def ywJ:Con:=⟨yfa,yng,fun x=>(fun n=>some ((n,()),())) (yje x.1 x.2.1 x.2.2.1)⟩
theorem yLZ:ConOk Tryz.prog 168 ywJ:=(yI6).mono (fun x r hk h=>(yKZ x.1 x.2.1 x.2.2.1 hk).trans h)
end
end
end Go.Tf
