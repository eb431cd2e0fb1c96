/- Functions of the program, and what they come to. -/
import Derived.Test.YtgmadfpnljibhaaGreatScrubsF13
namespace Go.Tf
noncomputable section
open Go.Proofs
set_option synthInstance.maxHeartbeats 400000
set_option synthInstance.maxSize 10000
set_option linter.unusedVariables false
set_option linter.unusedSimpArgs false
set_option maxRecDepth 100000
section
def yya:Code:=(Tryz.f116.body).getD .skip
def yyu:Env:=zki TT [(122,yjN),(126,yG)] []
theorem yGw:FrOk Tryz.prog ⟨yyu,14,fun _=>none⟩ yya:=zkp yc yd ⟨yq6,yU,trivial⟩
def yG7:Nat→Option Seg:=fun _=>none
abbrev yfQ:List Par:= [.rd tG,.rd tI]
abbrev ykm:List OT:= [⟨false,tB,.fz⟩]
def yob (a0:dG) (a1:Int):Option (ResD ykm×MutD yfQ) :=
  let r1:=ycE a0
  bif r1 then
    let r2:=yi a1 0 (IntKind.i64.wrap (a0.2 - 1))
    some ((r2,()),())
  else
    some ((false,()),())
theorem yLt (x:InD yfQ):zjH ⟨yyu,14,yG7⟩ Tryz.f116.results.toList yya yfQ ykm x=yob x.1 x.2.1:=by kernel_rfl
theorem yIr:ConOk Tryz.prog 116 ⟨yfQ,ykm,fun x=>yob x.1 x.2.1⟩:=zkh (yGw) Tryz.func116 (by kernel_rfl) (by kernel_rfl) Tryz.ntmps116.symm (by decide) (fun x r h=>(yLt x).trans h)
def yP (a0:dG) (a1:Int):Bool :=
  let r1:=ycE a0
  bif r1 then
    let r2:=yi a1 0 (IntKind.i64.wrap (a0.2 - 1))
    r2
  else
    false
def yb0:Con:=⟨yfQ,ykm,fun x=>(fun n=>some ((n,()),())) (yP x.1 x.2.1)⟩
theorem yKc (a0:dG) (a1:Int):yob a0 a1=(fun n=>some ((n,()),())) (yP a0 a1):=zkS (p:=fun (n:Bool)=>((n,()),())) (zkx (p:=fun (n:Bool)=>((n,()),())) rfl rfl)
theorem yfd:ConOk Tryz.prog 116 yb0:=(yIr).mono (fun x r _ h=>(yKc x.1 x.2.1).trans h)
theorem yCF (g:dG) (s:Int):yP g s=yO g s:=by
  unfold yP yO
  rw [yH5]
  cases hg:ye g
  · rfl
  have:=yg.1 hg
  rw [yat,ybC,wr (by omega) (by omega)]; rfl
end
section
def yFh:Code:=(Tryz.f179.body).getD .skip
def yFS:Env:=zki TT [(126,yG)] []
theorem yLG:FrOk Tryz.prog ⟨yFS,5,fun _=>none⟩ yFh:=zkp yc yd ⟨yU,trivial⟩
def yOd:Nat→Option Seg:=fun _=>none
abbrev ylb:List Par:= [.rd tI]
abbrev yqz:List OT:= [⟨false,tB,.fz⟩]
def yt2 (a0:Int):Option (ResD yqz×MutD ylb) :=
  let r1:=yi a0 0 65535
  some ((r1,()),())
theorem yVv (x:InD ylb):zjH ⟨yFS,5,yOd⟩ Tryz.f179.results.toList yFh ylb yqz x=yt2 x.1:=by kernel_rfl
theorem yQZ:ConOk Tryz.prog 179 ⟨ylb,yqz,fun x=>yt2 x.1⟩:=zkh (yLG) Tryz.func179 (by kernel_rfl) (by kernel_rfl) Tryz.ntmps179.symm (by decide) (fun x r h=>(yVv x).trans h)
def yaa (a0:Int):Bool :=
  let r1:=yi a0 0 65535
  r1
def yBK:Con:=⟨ylb,yqz,fun x=>(fun n=>some ((n,()),())) (yaa x.1)⟩
theorem yTn (a0:Int):yt2 a0=(fun n=>some ((n,()),())) (yaa a0):=zkS (p:=fun (n:Bool)=>((n,()),())) rfl
theorem yUl:ConOk Tryz.prog 179 yBK:=(yQZ).mono (fun x r _ h=>(yTn x.1).trans h)
end
section
def yiX:Code:=(Tryz.f228.body).getD .skip
def yoq:Env:=zki TT [(179,yBK)] []
theorem yJu:FrOk Tryz.prog ⟨yoq,15,fun _=>none⟩ yiX:=zkp yc yd ⟨yUl,trivial⟩
def yyh:Nat→Option Seg:=fun _=>none
def ycM:Shape:=⟨[(5,false,[.br tI]),(6,false,[.int .i64]),(7,false,[.int .i64])],[],[]⟩
def yis:Shape:=⟨[(5,false,[.br tI]),(6,false,[.int .i64]),(7,false,[.ci .i64 0])],[],[]⟩
def yiq:Shape:=⟨[],[],[]⟩
def yix:Shape:=⟨[(2,false,[.bool])],[],[]⟩
def yoh (v0:List Int) (v1:Int) (v2:Int):Option ((ycM).X ⊕ ((yiq).X ⊕ (yix).X)) :=
  bif (ltb v2 v1) then
    bif (inb v2 v0.length) then
      let r2:=yaa (nth v0 v2 0)
      bif (!r2) then
        some (.inr (.inr (((false,()),()),(),())))
      else
        some (.inl (((v0,()),(v1,()),((IntKind.i64.wrap (v2+1)),()),()),(),()))
    else none
  else
    some (.inr (.inl ((),(),())))
def ybr (x:(ycM).X):=yoh x.1.1.1 x.1.2.1.1 x.1.2.2.1.1
def yvW (x:(yis).X):(ycM).X:=(((x.1.1.1,()),(x.1.2.1.1,()),(0,()),()),(),())
def yw1:Code:=(zdI yiX 64 52).getD .skip
theorem yJc:zdI yiX 64 13=some (.block 0 (.loop yw1)):=by kernel_rfl
theorem yKF (x:(ycM).X):zg7 ⟨yoq,15,yyh⟩ 0 yw1 52 ycM yiq yix x=ybr x:=by kernel_rfl
def yv9 (x:(yis).X):Nat:=(fun (u0:List Int) (u1:Int)=>18446744073709551616) x.1.1.1 x.1.2.1.1
def ypl (x:(yis).X):Option ((yiq).X ⊕ (yix).X):=zr ybr (yv9 x) (yvW x)
def ywq:Seg:=⟨yis,yiq,yix,ypl⟩
def yyi:Nat→Option Seg:=fun q=>bif Nat.beq q 13 then some ywq else yyh q
theorem yJv:FrOk Tryz.prog ⟨yoq,15,yyi⟩ yiX:=(yJu).loop (sg:=ywq) ycM yvW (by decide) yJc ybr yv9 (by decide) (fun _=>rfl) (fun x r _ h=>h) yKF
abbrev yfr:List Par:= [.rd tL]
abbrev yoD:List OT:= [⟨false,tB,.fz⟩]
def ykI (a0:List Int):Option (ResD yoD×MutD yfr) :=
  zjw (ypl (((a0,()),((a0.length:Int),()),((),()),()),(),())) (fun y2 =>
    some ((true,()),())) (fun y2 =>
    some ((y2.1.1.1,()),()))
theorem ySK (x:InD yfr):zjH ⟨yoq,15,yyi⟩ Tryz.f228.results.toList yiX yfr yoD x=ykI x.1:=by kernel_rfl
theorem yNp:ConOk Tryz.prog 228 ⟨yfr,yoD,fun x=>ykI x.1⟩:=zkh (yJv) Tryz.func228 (by kernel_rfl) (by kernel_rfl) Tryz.ntmps228.symm (by decide) (fun x r h=>(ySK x).trans h)
def yaA (a0:List Int):Bool:=a0.all yaa
theorem yQD (a0:List Int) (hk:zi9 yfr (a0,())):ykI a0=(fun n=>some ((n,()),())) (yaA a0):=by
  have hb:a0.length * 8≤2 ^ 47:=hk.1.1
  have hl:ypl (((a0,()),((a0.length:Int),()),((),()),()),(),())=some (bif a0.all yaa then .inl ((),(),()) else .inr (((false,()),()),(),())) :=
    zjS (step:=ybr) a0 0 (fun i=>(((a0,()),((a0.length:Int),()),((i:Int),()),()),(),())) yaa _ _ (fun i hi=>by
      simp only [ybr,yoh,zkO hi,zjW,zjI (show (i:Int) < a0.length by omega),cond_true,wr (show -9223372036854775808≤(i:Int)+1 by omega) (by omega),Int.natCast_add,Int.natCast_one]
      cases yaa (a0.getD i 0)<;>rfl) (by simp only [ybr,yoh,zkm (Int.le_refl _),cond_false]) _ (by show _ < 18446744073709551616; omega)
  unfold ykI yaA
  rw [hl]
  cases a0.all yaa<;>rfl
def yrt:Con:=⟨yfr,yoD,fun x=>(fun n=>some ((n,()),())) (yaA x.1)⟩
theorem yCk:ConOk Tryz.prog 228 yrt:=(yNp).mono (fun x r hk h=>(yQD x.1 hk).trans h)
end
section
def yFf:Code:=(Tryz.f144.body).getD .skip
def yFQ:Env:=zki TT [(228,yrt)] []
theorem yLE:FrOk Tryz.prog ⟨yFQ,15,fun _=>none⟩ yFf:=zkp yc yd ⟨yCk,trivial⟩
def yOb:Nat→Option Seg:=fun _=>none
abbrev yk9:List Par:= [.rd tG,.rd tL]
abbrev yqx:List OT:= [⟨false,tB,.fz⟩]
def yt0 (a0:dG) (a1:List Int):Option (ResD yqx×MutD yk9) :=
  bif ((a1.length:Int)==(IntKind.i64.wrap (a0.1 - 1))) then
    let r1:=yaA a1
    some ((r1,()),())
  else
    some ((false,()),())
theorem yVt (x:InD yk9):zjH ⟨yFQ,15,yOb⟩ Tryz.f144.results.toList yFf yk9 yqx x=yt0 x.1 x.2.1:=by kernel_rfl
theorem yQX:ConOk Tryz.prog 144 ⟨yk9,yqx,fun x=>yt0 x.1 x.2.1⟩:=zkh (yLE) Tryz.func144 (by kernel_rfl) (by kernel_rfl) Tryz.ntmps144.symm (by decide) (fun x r h=>(yVt x).trans h)
def ylD (a0:dG) (a1:List Int):Bool :=
  bif ((a1.length:Int)==(IntKind.i64.wrap (a0.1 - 1))) then
    let r1:=yaA a1
    r1
  else
    false
def yBJ:Con:=⟨yk9,yqx,fun x=>(fun n=>some ((n,()),())) (ylD x.1 x.2.1)⟩
theorem yTl (a0:dG) (a1:List Int):yt0 a0 a1=(fun n=>some ((n,()),())) (ylD a0 a1):=zkS (p:=fun (n:Bool)=>((n,()),())) (zkx (p:=fun (n:Bool)=>((n,()),())) rfl rfl)
theorem yUk:ConOk Tryz.prog 144 yBJ:=(yQX).mono (fun x r _ h=>(yTl x.1 x.2.1).trans h)
end
section
def yiW:Code:=(Tryz.f132.body).getD .skip
def yop:Env:=zki TT [(116,yb0),(144,yBJ)] []
theorem yJq:FrOk Tryz.prog ⟨yop,44,fun _=>none⟩ yiW:=zkp yc yd ⟨yfd,yUk,trivial⟩
def yyf:Nat→Option Seg:=fun _=>none
def ybe:Shape:=⟨[(1,false,[.ptr 0 0]),(6,false,[.br tW]),(7,false,[.int .i64]),(8,false,[.int .i64])],[(0,[.int .i64,.int .i64,.int .i64,.br tM,.int .i64,.int .i64,.int .i64,.int .i64,.int .i64,.br tW,.int .i64,.bool,.bool])],[]⟩
def ye1:Shape:=⟨[(1,false,[.ptr 0 0]),(6,false,[.br tW]),(7,false,[.int .i64]),(8,false,[.ci .i64 0])],[(0,[.int .i64,.int .i64,.int .i64,.br tM,.int .i64,.int .i64,.int .i64,.int .i64,.int .i64,.br tW,.int .i64,.bool,.bool])],[]⟩
def yeT:Shape:=⟨[],[],[]⟩
def ye7:Shape:=⟨[(2,false,[.bool])],[],[]⟩
abbrev yn0 (v0:List dW) (v1:Int) (v2:Int) (v3:dA):(ybe).X:=((((),()),(v0,()),(v1,()),(v2,()),()),((v3.1,v3.2.1.1,v3.2.1.2,v3.2.2.1,v3.2.2.2.1,v3.2.2.2.2.1,v3.2.2.2.2.2.1,v3.2.2.2.2.2.2.1,v3.2.2.2.2.2.2.2.1,v3.2.2.2.2.2.2.2.2.1,v3.2.2.2.2.2.2.2.2.2.1,v3.2.2.2.2.2.2.2.2.2.2.1,v3.2.2.2.2.2.2.2.2.2.2.2,()),()),())
abbrev yIf (v0:List dW) (v1:Int) (v2:dA):(ye1).X:=((((),()),(v0,()),(v1,()),((),()),()),((v2.1,v2.2.1.1,v2.2.1.2,v2.2.2.1,v2.2.2.2.1,v2.2.2.2.2.1,v2.2.2.2.2.2.1,v2.2.2.2.2.2.2.1,v2.2.2.2.2.2.2.2.1,v2.2.2.2.2.2.2.2.2.1,v2.2.2.2.2.2.2.2.2.2.1,v2.2.2.2.2.2.2.2.2.2.2.1,v2.2.2.2.2.2.2.2.2.2.2.2,()),()),())
abbrev yH9  :(yeT).X:=((),(),())
abbrev yIk (v0:Bool):(ye7).X:=(((v0,()),()),(),())
def yog (v0:List dW) (v1:Int) (v2:Int) (v3:Int) (v4:Int) (v5:Int) (v6:List dM) (v7:Int) (v8:Int) (v9:Int) (v10:Int) (v11:Int) (v12:List dW) (v13:Int) (v14:Bool) (v15:Bool):Option ((ybe).X ⊕ ((yeT).X ⊕ (ye7).X)) :=
  bif (ltb v2 v1) then
    bif (inb v2 v0.length) then
      let r4:=yP (v4,v5) ((nth v0 v2 (0,[])).1)
      bif (!(!r4)) then
        bif (ltb 0 v2) then
          bif (inb (IntKind.i64.wrap (v2 - 1)) v12.length) then
            bif (!(leb ((nth v0 v2 (0,[])).1) ((nth v12 (IntKind.i64.wrap (v2 - 1)) (0,[])).1))) then
              let r5:=ylD (v4,v5) ((nth v0 v2 (0,[])).2)
              bif (!r5) then
                some (.inr (.inr (((false,()),()),(),())))
              else
                some (.inl ((((),()),(v0,()),(v1,()),((IntKind.i64.wrap (v2+1)),()),()),((v3,v4,v5,v6,v7,v8,v9,v10,v11,v12,v13,v14,v15,()),()),()))
            else
              some (.inr (.inr (((false,()),()),(),())))
          else none
        else
          let r6:=ylD (v4,v5) ((nth v0 v2 (0,[])).2)
          bif (!r6) then
            some (.inr (.inr (((false,()),()),(),())))
          else
            some (.inl ((((),()),(v0,()),(v1,()),((IntKind.i64.wrap (v2+1)),()),()),((v3,v4,v5,v6,v7,v8,v9,v10,v11,v12,v13,v14,v15,()),()),()))
      else
        some (.inr (.inr (((false,()),()),(),())))
    else none
  else
    some (.inr (.inl ((),(),())))
def ybq (x:(ybe).X):=yog x.1.2.1.1 x.1.2.2.1.1 x.1.2.2.2.1.1 x.2.1.1.1 x.2.1.1.2.1 x.2.1.1.2.2.1 x.2.1.1.2.2.2.1 x.2.1.1.2.2.2.2.1 x.2.1.1.2.2.2.2.2.1 x.2.1.1.2.2.2.2.2.2.1 x.2.1.1.2.2.2.2.2.2.2.1 x.2.1.1.2.2.2.2.2.2.2.2.1 x.2.1.1.2.2.2.2.2.2.2.2.2.1 x.2.1.1.2.2.2.2.2.2.2.2.2.2.1 x.2.1.1.2.2.2.2.2.2.2.2.2.2.2.1 x.2.1.1.2.2.2.2.2.2.2.2.2.2.2.2.1
def yvV (x:(ye1).X):(ybe).X:=((((),()),(x.1.2.1.1,()),(x.1.2.2.1.1,()),(0,()),()),((x.2.1.1.1,x.2.1.1.2.1,x.2.1.1.2.2.1,x.2.1.1.2.2.2.1,x.2.1.1.2.2.2.2.1,x.2.1.1.2.2.2.2.2.1,x.2.1.1.2.2.2.2.2.2.1,x.2.1.1.2.2.2.2.2.2.2.1,x.2.1.1.2.2.2.2.2.2.2.2.1,x.2.1.1.2.2.2.2.2.2.2.2.2.1,x.2.1.1.2.2.2.2.2.2.2.2.2.2.1,x.2.1.1.2.2.2.2.2.2.2.2.2.2.2.1,x.2.1.1.2.2.2.2.2.2.2.2.2.2.2.2.1,()),()),())
def yw0:Code:=(zdI yiW 64 52).getD .skip
theorem yJb:zdI yiW 64 13=some (.block 0 (.loop yw0)):=by kernel_rfl
theorem yKE (x:(ybe).X):zg7 ⟨yop,44,yyf⟩ 0 yw0 52 ybe yeT ye7 x=ybq x:=by kernel_rfl
def yv8 (x:(ye1).X):Nat:=(fun (u0:List dW) (u1:Int) (u2:Int) (u3:Int) (u4:Int) (u5:List dM) (u6:Int) (u7:Int) (u8:Int) (u9:Int) (u10:Int) (u11:List dW) (u12:Int) (u13:Bool) (u14:Bool)=>18446744073709551616) x.1.2.1.1 x.1.2.2.1.1 x.2.1.1.1 x.2.1.1.2.1 x.2.1.1.2.2.1 x.2.1.1.2.2.2.1 x.2.1.1.2.2.2.2.1 x.2.1.1.2.2.2.2.2.1 x.2.1.1.2.2.2.2.2.2.1 x.2.1.1.2.2.2.2.2.2.2.1 x.2.1.1.2.2.2.2.2.2.2.2.1 x.2.1.1.2.2.2.2.2.2.2.2.2.1 x.2.1.1.2.2.2.2.2.2.2.2.2.2.1 x.2.1.1.2.2.2.2.2.2.2.2.2.2.2.1 x.2.1.1.2.2.2.2.2.2.2.2.2.2.2.2.1
def ypk (x:(ye1).X):Option ((yeT).X ⊕ (ye7).X):=zr ybq (yv8 x) (yvV x)
def ywp:Seg:=⟨ye1,yeT,ye7,ypk⟩
def yyg:Nat→Option Seg:=fun q=>bif Nat.beq q 13 then some ywp else yyf q
theorem yJr:FrOk Tryz.prog ⟨yop,44,yyg⟩ yiW:=(yJq).loop (sg:=ywp) ybe yvV (by decide) yJb ybq yv8 (by decide) (fun _=>rfl) (fun x r _ h=>h) yKE
abbrev ydn:List Par:= [.rd tA]
abbrev yjB:List OT:= [⟨false,tB,.fz⟩]
def ykH (a0:dA):Option (ResD yjB×MutD ydn) :=
  zjw (ypk ((((),()),(a0.2.2.2.2.2.2.2.2.1,()),((a0.2.2.2.2.2.2.2.2.1.length:Int),()),((),()),()),((a0.1,a0.2.1.1,a0.2.1.2,a0.2.2.1,a0.2.2.2.1,a0.2.2.2.2.1,a0.2.2.2.2.2.1,a0.2.2.2.2.2.2.1,a0.2.2.2.2.2.2.2.1,a0.2.2.2.2.2.2.2.2.1,a0.2.2.2.2.2.2.2.2.2.1,a0.2.2.2.2.2.2.2.2.2.2.1,a0.2.2.2.2.2.2.2.2.2.2.2,()),()),())) (fun y6 =>
    some ((true,()),())) (fun y6 =>
    some ((y6.1.1.1,()),()))
theorem ySH (x:InD ydn):zjH ⟨yop,44,yyg⟩ Tryz.f132.results.toList yiW ydn yjB x=ykH x.1:=by kernel_rfl
theorem yNm:ConOk Tryz.prog 132 ⟨ydn,yjB,fun x=>ykH x.1⟩:=zkh (yJr) Tryz.func132 (by kernel_rfl) (by kernel_rfl) Tryz.ntmps132.symm (by decide) (fun x r h=>(ySH x).trans h)
def yjW (a0:dA):Bool:=yaz a0.2.1 a0.2.2.2.2.2.2.2.2.1
def yvb (a0:dA):Bool:=ye a0.2.1
theorem yP9 (l:List Int):yaA l=l.all isW:=by
  unfold yaA
  rw [show yaa=isW from funext fun x=>by unfold yaa; rw [yat,ybC]; rfl]
theorem yQA (a0:dA) (hk:zi9 ydn (a0,())) (hq:yvb a0=true):ykH a0=(fun n=>some ((n,()),())) (yjW a0):=by
  have hb:a0.2.2.2.2.2.2.2.2.1.length * 32≤2 ^ 47:=hk.1.2.2.2.2.2.2.2.2.1.1
  have hg:=yg.1 hq
  have hq':ye a0.2.1=true:=hq
  have h1:ypk (yIf a0.2.2.2.2.2.2.2.2.1 a0.2.2.2.2.2.2.2.2.1.length a0)=some (bif (List.range a0.2.2.2.2.2.2.2.2.1.length).any (ygV a0.2.1 a0.2.2.2.2.2.2.2.2.1) then .inr (yIk false) else .inl yH9) :=
    zf4 (step:=ybq) (fun i=>yn0 a0.2.2.2.2.2.2.2.2.1 a0.2.2.2.2.2.2.2.2.1.length i a0) a0.2.2.2.2.2.2.2.2.1.length (ygV a0.2.1 a0.2.2.2.2.2.2.2.2.1) _ _ (fun i hi=>by
      simp only [ybq,yn0,yog,zjI (show (i:Int) < a0.2.2.2.2.2.2.2.2.1.length by omega),cond_true,wr (show -9223372036854775808≤(i:Int)+1 by omega) (by omega),Int.natCast_add,Int.natCast_one,Int.toNat_natCast,zkO hi,zkV,yP,ylD,yH5,hq',yat,ybC,yP9,wr (show -9223372036854775808≤a0.2.1.2 - 1 by omega) (by omega),wr (show -9223372036854775808≤a0.2.1.1 - 1 by omega) (by omega),ygV,bne]
      rcases Nat.eq_zero_or_pos i with rfl | h0
      · cases (leb 0 (nth a0.2.2.2.2.2.2.2.2.1 ((0:Nat):Int) (0,[])).1&&leb (nth a0.2.2.2.2.2.2.2.2.1 ((0:Nat):Int) (0,[])).1 (a0.2.1.2 - 1))<;>cases (((nth a0.2.2.2.2.2.2.2.2.1 ((0:Nat):Int) (0,[])).2.length:Int)==a0.2.1.1 - 1)<;>cases ((nth a0.2.2.2.2.2.2.2.2.1 ((0:Nat):Int) (0,[])).2.all isW)<;>rfl
      · rw [show IntKind.i64.wrap ((i:Int) - 1)=((i - 1:Nat):Int) by rw [wr (by omega) (by omega)]; omega,zkO (show i - 1 < a0.2.2.2.2.2.2.2.2.1.length by omega),zjI (show (0:Int) < i by omega),decide_eq_true h0]
        cases (leb 0 (nth a0.2.2.2.2.2.2.2.2.1 (i:Int) (0,[])).1&&leb (nth a0.2.2.2.2.2.2.2.2.1 (i:Int) (0,[])).1 (a0.2.1.2 - 1))<;>cases (((nth a0.2.2.2.2.2.2.2.2.1 (i:Int) (0,[])).2.length:Int)==a0.2.1.1 - 1)<;>cases ((nth a0.2.2.2.2.2.2.2.2.1 (i:Int) (0,[])).2.all isW)<;>cases leb (nth a0.2.2.2.2.2.2.2.2.1 (i:Int) (0,[])).1 (nth a0.2.2.2.2.2.2.2.2.1 ((i - 1:Nat):Int) (0,[])).1<;>rfl) (by simp only [ybq,yn0,yog,zkm (Int.le_refl _),cond_false]) _ (by show _ < 18446744073709551616; omega)
  unfold ykH yjW yaz
  rw [h1]
  cases (List.range a0.2.2.2.2.2.2.2.2.1.length).any (ygV a0.2.1 a0.2.2.2.2.2.2.2.2.1)<;>rfl
def yoW (a0:dA):Option (ResD yjB×MutD ydn):=bif yvb a0 then (fun n=>some ((n,()),())) (yjW a0) else none
theorem yRJ (a0:dA) (h:yvb a0=true):yoW a0=(fun n=>some ((n,()),())) (yjW a0):=by unfold yoW; rw [h]; rfl
def yyR:Con:=⟨ydn,yjB,fun x=>yoW x.1⟩
theorem yRy:ConOk Tryz.prog 132 yyR:=(yNm).mono (fun x r hk h=>zkW h (fun hq=>yQA x.1 hk hq))
end
section
def yFg:Code:=(Tryz.f220.body).getD .skip
def yFR:Env:=zki TT [(126,yG)] []
theorem yLF:FrOk Tryz.prog ⟨yFR,11,fun _=>none⟩ yFg:=zkp yc yd ⟨yU,trivial⟩
def yOc:Nat→Option Seg:=fun _=>none
abbrev yla:List Par:= [.rd tM,.rd tI]
abbrev yqy:List OT:= [⟨false,tB,.fz⟩]
def yt1 (a0:dM) (a1:Int):Option (ResD yqy×MutD yla) :=
  let r1:=yi a1 0 (IntKind.i64.wrap ((a0.1.length:Int) - 1))
  some ((r1,()),())
theorem yVu (x:InD yla):zjH ⟨yFR,11,yOc⟩ Tryz.f220.results.toList yFg yla yqy x=yt1 x.1 x.2.1:=by kernel_rfl
theorem yQY:ConOk Tryz.prog 220 ⟨yla,yqy,fun x=>yt1 x.1 x.2.1⟩:=zkh (yLF) Tryz.func220 (by kernel_rfl) (by kernel_rfl) Tryz.ntmps220.symm (by decide) (fun x r h=>(yVu x).trans h)
def yda (a0:dM) (a1:Int):Bool :=
  let r1:=yi a1 0 (IntKind.i64.wrap ((a0.1.length:Int) - 1))
  r1
def ytw:Con:=⟨yla,yqy,fun x=>(fun n=>some ((n,()),())) (yda x.1 x.2.1)⟩
theorem yTm (a0:dM) (a1:Int):yt1 a0 a1=(fun n=>some ((n,()),())) (yda a0 a1):=zkS (p:=fun (n:Bool)=>((n,()),())) rfl
theorem yEm:ConOk Tryz.prog 220 ytw:=(yQY).mono (fun x r _ h=>(yTm x.1 x.2.1).trans h)
end
end
end Go.Tf
