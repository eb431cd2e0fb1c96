/- Functions of the program, and what they come to. -/
import Derived.Test.YtgmadfpnljibhaaWordsF11
namespace Go.Tf
noncomputable section
open Go.Proofs
set_option synthInstance.maxHeartbeats 400000
set_option synthInstance.maxSize 10000
set_option linter.unusedVariables false
set_option linter.unusedSimpArgs false
set_option maxRecDepth 100000
section
def ysd:Code:=(Try.f36.body).getD .skip
def ysu:Env:=zki TT [(39,yD),(40,ypC)] []
theorem yyI:FrOk Try.prog ⟨ysu,14,fun _=>none⟩ ysd:=zkp yc yd ⟨yS,yyw,trivial⟩
def yy7:Nat→Option Seg:=fun _=>none
abbrev yeb:List Par:= [.rd tG,.rd tI]
abbrev yhF:List OT:= [⟨false,tB,.fz⟩]
def ykq (a0:dG) (a1:Int):Option (ResD yhF×MutD yeb) :=
  let r1:=yhg a0
  bif r1 then
    let r2:=yi a1 0 (IntKind.i64.wrap (a0.2 - 1))
    some ((r2,()),())
  else
    some ((false,()),())
theorem yCu (x:InD yeb):zjH ⟨ysu,14,yy7⟩ Try.f36.results.toList ysd yeb yhF x=ykq x.1 x.2.1:=by kernel_rfl
theorem yz2:ConOk Try.prog 36 ⟨yeb,yhF,fun x=>ykq x.1 x.2.1⟩:=zkh (yyI) Try.func36 (by kernel_rfl) (by kernel_rfl) Try.ntmps36.symm (by decide) (fun x r h=>(yCu x).trans h)
def yF (a0:dG) (a1:Int):Bool :=
  let r1:=yhg a0
  bif r1 then
    let r2:=yi a1 0 (IntKind.i64.wrap (a0.2 - 1))
    r2
  else
    false
def ybl:Con:=⟨yeb,yhF,fun x=>(fun n=>some ((n,()),())) (yF x.1 x.2.1)⟩
theorem yBv (a0:dG) (a1:Int):ykq a0 a1=(fun n=>some ((n,()),())) (yF a0 a1):=zkS (p:=fun (n:Bool)=>((n,()),())) (zkx (p:=fun (n:Bool)=>((n,()),())) rfl rfl)
theorem ydH:ConOk Try.prog 36 ybl:=(yz2).mono (fun x r _ h=>(yBv x.1 x.2.1).trans h)
theorem yvJ (g:dG) (s:Int):yF g s=yV g s:=by
  unfold yF yV
  rw [yGc]
  cases hg:yb g
  · rfl
  have:=yk.1 hg
  rw [yaj,ybB,wr (by omega) (by omega)]; rfl
end
section
def yxN:Code:=(Try.f160.body).getD .skip
def yyd:Env:=zki TT [(39,yD)] []
theorem yCF:FrOk Try.prog ⟨yyd,5,fun _=>none⟩ yxN:=zkp yc yd ⟨yS,trivial⟩
def yEL:Nat→Option Seg:=fun _=>none
abbrev yio:List Par:= [.rd tI]
abbrev ymo:List OT:= [⟨false,tB,.fz⟩]
def yo7 (a0:Int):Option (ResD ymo×MutD yio) :=
  let r1:=yi a0 0 65535
  some ((r1,()),())
theorem yKy (x:InD yio):zjH ⟨yyd,5,yEL⟩ Try.f160.results.toList yxN yio ymo x=yo7 x.1:=by kernel_rfl
theorem yGO:ConOk Try.prog 160 ⟨yio,ymo,fun x=>yo7 x.1⟩:=zkh (yCF) Try.func160 (by kernel_rfl) (by kernel_rfl) Try.ntmps160.symm (by decide) (fun x r h=>(yKy x).trans h)
def yL (a0:Int):Bool :=
  let r1:=yi a0 0 65535
  r1
def yu4:Con:=⟨yio,ymo,fun x=>(fun n=>some ((n,()),())) (yL x.1)⟩
theorem yIF (a0:Int):yo7 a0=(fun n=>some ((n,()),())) (yL a0):=zkS (p:=fun (n:Bool)=>((n,()),())) rfl
theorem yJs:ConOk Try.prog 160 yu4:=(yGO).mono (fun x r _ h=>(yIF x.1).trans h)
end
section
def ygD:Code:=(Try.f129.body).getD .skip
def ykE:Env:=zki TT [(160,yu4)] []
theorem yAP:FrOk Try.prog ⟨ykE,15,fun _=>none⟩ ygD:=zkp yc yd ⟨yJs,trivial⟩
def ysi:Nat→Option Seg:=fun _=>none
def ybY:Shape:=⟨[(5,false,[.br tI]),(6,false,[.int .i64]),(7,false,[.int .i64])],[],[]⟩
def yge:Shape:=⟨[(5,false,[.br tI]),(6,false,[.int .i64]),(7,false,[.ci .i64 0])],[],[]⟩
def ygc:Shape:=⟨[],[],[]⟩
def ygk:Shape:=⟨[(2,false,[.bool])],[],[]⟩
def ykv (v0:List Int) (v1:Int) (v2:Int):Option ((ybY).X ⊕ ((ygc).X ⊕ (ygk).X)) :=
  bif (ltb v2 v1) then
    bif (inb v2 v0.length) then
      let r2:=yL (nth v0 v2 0)
      bif (!r2) then
        some (.inr (.inr (((false,()),()),(),())))
      else
        some (.inl (((v0,()),(v1,()),((IntKind.i64.wrap (v2+1)),()),()),(),()))
    else none
  else
    some (.inr (.inl ((),(),())))
def yaO (x:(ybY).X):=ykv x.1.1.1 x.1.2.1.1 x.1.2.2.1.1
def yqk (x:(yge).X):(ybY).X:=(((x.1.1.1,()),(x.1.2.1.1,()),(0,()),()),(),())
def yre:Code:=(zdI ygD 64 52).getD .skip
theorem yAC:zdI ygD 64 13=some (.block 0 (.loop yre)):=by kernel_rfl
theorem yBM (x:(ybY).X):zg7 ⟨ykE,15,ysi⟩ 0 yre 52 ybY ygc ygk x=yaO x:=by kernel_rfl
def yqw (x:(yge).X):Nat:=(fun (u0:List Int) (u1:Int)=>18446744073709551616) x.1.1.1 x.1.2.1.1
def ylp (x:(yge).X):Option ((ygc).X ⊕ (ygk).X):=zr yaO (yqw x) (yqk x)
def yqK:Seg:=⟨yge,ygc,ygk,ylp⟩
def ysj:Nat→Option Seg:=fun q=>bif Nat.beq q 13 then some yqK else ysi q
theorem yAQ:FrOk Try.prog ⟨ykE,15,ysj⟩ ygD:=(yAP).loop (sg:=yqK) ybY yqk (by decide) yAC yaO yqw (by decide) (fun _=>rfl) (fun x r _ h=>h) yBM
abbrev ydT:List Par:= [.rd tL]
abbrev ykL:List OT:= [⟨false,tB,.fz⟩]
def yhX (a0:List Int):Option (ResD ykL×MutD ydT) :=
  zjw (ylp (((a0,()),((a0.length:Int),()),((),()),()),(),())) (fun y2 =>
    some ((true,()),())) (fun y2 =>
    some ((y2.1.1.1,()),()))
theorem yIb (x:InD ydT):zjH ⟨ykE,15,ysj⟩ Try.f129.results.toList ygD ydT ykL x=yhX x.1:=by kernel_rfl
theorem yD2:ConOk Try.prog 129 ⟨ydT,ykL,fun x=>yhX x.1⟩:=zkh (yAQ) Try.func129 (by kernel_rfl) (by kernel_rfl) Try.ntmps129.symm (by decide) (fun x r h=>(yIb x).trans h)
def yac (a0:List Int):Bool:=a0.all yL
theorem yGt (a0:List Int) (hk:zi9 ydT (a0,())):yhX a0=(fun n=>some ((n,()),())) (yac a0):=by
  have hb:a0.length * 8≤2 ^ 47:=hk.1.1
  have hl:ylp (((a0,()),((a0.length:Int),()),((),()),()),(),())=some (bif a0.all yL then .inl ((),(),()) else .inr (((false,()),()),(),())) :=
    zjS (step:=yaO) a0 0 (fun i=>(((a0,()),((a0.length:Int),()),((i:Int),()),()),(),())) yL _ _ (fun i hi=>by
      simp only [yaO,ykv,zkO hi,zjW,zjI (show (i:Int) < a0.length by omega),cond_true,wr (show -9223372036854775808≤(i:Int)+1 by omega) (by omega),Int.natCast_add,Int.natCast_one]
      cases yL (a0.getD i 0)<;>rfl) (by simp only [yaO,ykv,zkm (Int.le_refl _),cond_false]) _ (by show _ < 18446744073709551616; omega)
  unfold yhX yac
  rw [hl]
  cases a0.all yL<;>rfl
def ym7:Con:=⟨ydT,ykL,fun x=>(fun n=>some ((n,()),())) (yac x.1)⟩
theorem yvw:ConOk Try.prog 129 ym7:=(yD2).mono (fun x r hk h=>(yGt x.1 hk).trans h)
end
section
def yxL:Code:=(Try.f82.body).getD .skip
def yyb:Env:=zki TT [(129,ym7)] []
theorem yCD:FrOk Try.prog ⟨yyb,15,fun _=>none⟩ yxL:=zkp yc yd ⟨yvw,trivial⟩
def yEJ:Nat→Option Seg:=fun _=>none
abbrev yim:List Par:= [.rd tG,.rd tL]
abbrev ymm:List OT:= [⟨false,tB,.fz⟩]
def yo5 (a0:dG) (a1:List Int):Option (ResD ymm×MutD yim) :=
  bif ((a1.length:Int)==(IntKind.i64.wrap (a0.1 - 1))) then
    let r1:=yac a1
    some ((r1,()),())
  else
    some ((false,()),())
theorem yKw (x:InD yim):zjH ⟨yyb,15,yEJ⟩ Try.f82.results.toList yxL yim ymm x=yo5 x.1 x.2.1:=by kernel_rfl
theorem yGM:ConOk Try.prog 82 ⟨yim,ymm,fun x=>yo5 x.1 x.2.1⟩:=zkh (yCD) Try.func82 (by kernel_rfl) (by kernel_rfl) Try.ntmps82.symm (by decide) (fun x r h=>(yKw x).trans h)
def yiL (a0:dG) (a1:List Int):Bool :=
  bif ((a1.length:Int)==(IntKind.i64.wrap (a0.1 - 1))) then
    let r1:=yac a1
    r1
  else
    false
def yu3:Con:=⟨yim,ymm,fun x=>(fun n=>some ((n,()),())) (yiL x.1 x.2.1)⟩
theorem yID (a0:dG) (a1:List Int):yo5 a0 a1=(fun n=>some ((n,()),())) (yiL a0 a1):=zkS (p:=fun (n:Bool)=>((n,()),())) (zkx (p:=fun (n:Bool)=>((n,()),())) rfl rfl)
theorem yJr:ConOk Try.prog 82 yu3:=(yGM).mono (fun x r _ h=>(yID x.1 x.2.1).trans h)
end
section
def ygC:Code:=(Try.f42.body).getD .skip
def ykD:Env:=zki TT [(36,ybl),(82,yu3)] []
theorem yAM:FrOk Try.prog ⟨ykD,44,fun _=>none⟩ ygC:=zkp yc yd ⟨ydH,yJr,trivial⟩
def ysg:Nat→Option Seg:=fun _=>none
def yaE:Shape:=⟨[(1,false,[.ptr 0 0]),(6,false,[.br tW]),(7,false,[.int .i64]),(8,false,[.int .i64])],[(0,[.int .i64,.int .i64,.int .i64,.br tM,.int .i64,.int .i64,.int .i64,.int .i64,.int .i64,.br tW,.int .i64,.bool,.bool])],[]⟩
def ydy:Shape:=⟨[(1,false,[.ptr 0 0]),(6,false,[.br tW]),(7,false,[.int .i64]),(8,false,[.ci .i64 0])],[(0,[.int .i64,.int .i64,.int .i64,.br tM,.int .i64,.int .i64,.int .i64,.int .i64,.int .i64,.br tW,.int .i64,.bool,.bool])],[]⟩
def ydr:Shape:=⟨[],[],[]⟩
def ydD:Shape:=⟨[(2,false,[.bool])],[],[]⟩
abbrev ykh (v0:List dW) (v1:Int) (v2:Int) (v3:dA):(yaE).X:=((((),()),(v0,()),(v1,()),(v2,()),()),((v3.1,v3.2.1.1,v3.2.1.2,v3.2.2.1,v3.2.2.2.1,v3.2.2.2.2.1,v3.2.2.2.2.2.1,v3.2.2.2.2.2.2.1,v3.2.2.2.2.2.2.2.1,v3.2.2.2.2.2.2.2.2.1,v3.2.2.2.2.2.2.2.2.2.1,v3.2.2.2.2.2.2.2.2.2.2.1,v3.2.2.2.2.2.2.2.2.2.2.2,()),()),())
abbrev yzR (v0:List dW) (v1:Int) (v2:dA):(ydy).X:=((((),()),(v0,()),(v1,()),((),()),()),((v2.1,v2.2.1.1,v2.2.1.2,v2.2.2.1,v2.2.2.2.1,v2.2.2.2.2.1,v2.2.2.2.2.2.1,v2.2.2.2.2.2.2.1,v2.2.2.2.2.2.2.2.1,v2.2.2.2.2.2.2.2.2.1,v2.2.2.2.2.2.2.2.2.2.1,v2.2.2.2.2.2.2.2.2.2.2.1,v2.2.2.2.2.2.2.2.2.2.2.2,()),()),())
abbrev yzL  :(ydr).X:=((),(),())
abbrev yzW (v0:Bool):(ydD).X:=(((v0,()),()),(),())
def yku (v0:List dW) (v1:Int) (v2:Int) (v3:Int) (v4:Int) (v5:Int) (v6:List dM) (v7:Int) (v8:Int) (v9:Int) (v10:Int) (v11:Int) (v12:List dW) (v13:Int) (v14:Bool) (v15:Bool):Option ((yaE).X ⊕ ((ydr).X ⊕ (ydD).X)) :=
  bif (ltb v2 v1) then
    bif (inb v2 v0.length) then
      let r4:=yF (v4,v5) ((nth v0 v2 (0,[])).1)
      bif (!(!r4)) then
        bif (ltb 0 v2) then
          bif (inb (IntKind.i64.wrap (v2 - 1)) v12.length) then
            bif (!(leb ((nth v0 v2 (0,[])).1) ((nth v12 (IntKind.i64.wrap (v2 - 1)) (0,[])).1))) then
              let r5:=yiL (v4,v5) ((nth v0 v2 (0,[])).2)
              bif (!r5) then
                some (.inr (.inr (((false,()),()),(),())))
              else
                some (.inl ((((),()),(v0,()),(v1,()),((IntKind.i64.wrap (v2+1)),()),()),((v3,v4,v5,v6,v7,v8,v9,v10,v11,v12,v13,v14,v15,()),()),()))
            else
              some (.inr (.inr (((false,()),()),(),())))
          else none
        else
          let r6:=yiL (v4,v5) ((nth v0 v2 (0,[])).2)
          bif (!r6) then
            some (.inr (.inr (((false,()),()),(),())))
          else
            some (.inl ((((),()),(v0,()),(v1,()),((IntKind.i64.wrap (v2+1)),()),()),((v3,v4,v5,v6,v7,v8,v9,v10,v11,v12,v13,v14,v15,()),()),()))
      else
        some (.inr (.inr (((false,()),()),(),())))
    else none
  else
    some (.inr (.inl ((),(),())))
def yaN (x:(yaE).X):=yku x.1.2.1.1 x.1.2.2.1.1 x.1.2.2.2.1.1 x.2.1.1.1 x.2.1.1.2.1 x.2.1.1.2.2.1 x.2.1.1.2.2.2.1 x.2.1.1.2.2.2.2.1 x.2.1.1.2.2.2.2.2.1 x.2.1.1.2.2.2.2.2.2.1 x.2.1.1.2.2.2.2.2.2.2.1 x.2.1.1.2.2.2.2.2.2.2.2.1 x.2.1.1.2.2.2.2.2.2.2.2.2.1 x.2.1.1.2.2.2.2.2.2.2.2.2.2.1 x.2.1.1.2.2.2.2.2.2.2.2.2.2.2.1 x.2.1.1.2.2.2.2.2.2.2.2.2.2.2.2.1
def yqj (x:(ydy).X):(yaE).X:=((((),()),(x.1.2.1.1,()),(x.1.2.2.1.1,()),(0,()),()),((x.2.1.1.1,x.2.1.1.2.1,x.2.1.1.2.2.1,x.2.1.1.2.2.2.1,x.2.1.1.2.2.2.2.1,x.2.1.1.2.2.2.2.2.1,x.2.1.1.2.2.2.2.2.2.1,x.2.1.1.2.2.2.2.2.2.2.1,x.2.1.1.2.2.2.2.2.2.2.2.1,x.2.1.1.2.2.2.2.2.2.2.2.2.1,x.2.1.1.2.2.2.2.2.2.2.2.2.2.1,x.2.1.1.2.2.2.2.2.2.2.2.2.2.2.1,x.2.1.1.2.2.2.2.2.2.2.2.2.2.2.2.1,()),()),())
def yrd:Code:=(zdI ygC 64 52).getD .skip
theorem yAB:zdI ygC 64 13=some (.block 0 (.loop yrd)):=by kernel_rfl
theorem yBL (x:(yaE).X):zg7 ⟨ykD,44,ysg⟩ 0 yrd 52 yaE ydr ydD x=yaN x:=by kernel_rfl
def yqv (x:(ydy).X):Nat:=(fun (u0:List dW) (u1:Int) (u2:Int) (u3:Int) (u4:Int) (u5:List dM) (u6:Int) (u7:Int) (u8:Int) (u9:Int) (u10:Int) (u11:List dW) (u12:Int) (u13:Bool) (u14:Bool)=>18446744073709551616) x.1.2.1.1 x.1.2.2.1.1 x.2.1.1.1 x.2.1.1.2.1 x.2.1.1.2.2.1 x.2.1.1.2.2.2.1 x.2.1.1.2.2.2.2.1 x.2.1.1.2.2.2.2.2.1 x.2.1.1.2.2.2.2.2.2.1 x.2.1.1.2.2.2.2.2.2.2.1 x.2.1.1.2.2.2.2.2.2.2.2.1 x.2.1.1.2.2.2.2.2.2.2.2.2.1 x.2.1.1.2.2.2.2.2.2.2.2.2.2.1 x.2.1.1.2.2.2.2.2.2.2.2.2.2.2.1 x.2.1.1.2.2.2.2.2.2.2.2.2.2.2.2.1
def ylo (x:(ydy).X):Option ((ydr).X ⊕ (ydD).X):=zr yaN (yqv x) (yqj x)
def yqJ:Seg:=⟨ydy,ydr,ydD,ylo⟩
def ysh:Nat→Option Seg:=fun q=>bif Nat.beq q 13 then some yqJ else ysg q
theorem yAN:FrOk Try.prog ⟨ykD,44,ysh⟩ ygC:=(yAM).loop (sg:=yqJ) yaE yqj (by decide) yAB yaN yqv (by decide) (fun _=>rfl) (fun x r _ h=>h) yBL
abbrev ycv:List Par:= [.rd tA]
abbrev yg4:List OT:= [⟨false,tB,.fz⟩]
def yhW (a0:dA):Option (ResD yg4×MutD ycv) :=
  zjw (ylo ((((),()),(a0.2.2.2.2.2.2.2.2.1,()),((a0.2.2.2.2.2.2.2.2.1.length:Int),()),((),()),()),((a0.1,a0.2.1.1,a0.2.1.2,a0.2.2.1,a0.2.2.2.1,a0.2.2.2.2.1,a0.2.2.2.2.2.1,a0.2.2.2.2.2.2.1,a0.2.2.2.2.2.2.2.1,a0.2.2.2.2.2.2.2.2.1,a0.2.2.2.2.2.2.2.2.2.1,a0.2.2.2.2.2.2.2.2.2.2.1,a0.2.2.2.2.2.2.2.2.2.2.2,()),()),())) (fun y6 =>
    some ((true,()),())) (fun y6 =>
    some ((y6.1.1.1,()),()))
theorem yH9 (x:InD ycv):zjH ⟨ykD,44,ysh⟩ Try.f42.results.toList ygC ycv yg4 x=yhW x.1:=by kernel_rfl
theorem yD0:ConOk Try.prog 42 ⟨ycv,yg4,fun x=>yhW x.1⟩:=zkh (yAN) Try.func42 (by kernel_rfl) (by kernel_rfl) Try.ntmps42.symm (by decide) (fun x r h=>(yH9 x).trans h)
def yhj (a0:dA):Bool:=yab a0.2.1 a0.2.2.2.2.2.2.2.2.1
def ypP (a0:dA):Bool:=yb a0.2.1
theorem yGd (l:List Int):yac l=l.all isW:=by
  unfold yac
  rw [show yL=isW from funext fun x=>by unfold yL; rw [yaj,ybB]; rfl]
theorem yGr (a0:dA) (hk:zi9 ycv (a0,())) (hq:ypP a0=true):yhW a0=(fun n=>some ((n,()),())) (yhj a0):=by
  have hb:a0.2.2.2.2.2.2.2.2.1.length * 32≤2 ^ 47:=hk.1.2.2.2.2.2.2.2.2.1.1
  have hg:=yk.1 hq
  have hq':yb a0.2.1=true:=hq
  have h1:ylo (yzR a0.2.2.2.2.2.2.2.2.1 a0.2.2.2.2.2.2.2.2.1.length a0)=some (bif (List.range a0.2.2.2.2.2.2.2.2.1.length).any (ye5 a0.2.1 a0.2.2.2.2.2.2.2.2.1) then .inr (yzW false) else .inl yzL) :=
    zf4 (step:=yaN) (fun i=>ykh a0.2.2.2.2.2.2.2.2.1 a0.2.2.2.2.2.2.2.2.1.length i a0) a0.2.2.2.2.2.2.2.2.1.length (ye5 a0.2.1 a0.2.2.2.2.2.2.2.2.1) _ _ (fun i hi=>by
      simp only [yaN,ykh,yku,zjI (show (i:Int) < a0.2.2.2.2.2.2.2.2.1.length by omega),cond_true,wr (show -9223372036854775808≤(i:Int)+1 by omega) (by omega),Int.natCast_add,Int.natCast_one,Int.toNat_natCast,zkO hi,zkV,yF,yiL,yGc,hq',yaj,ybB,yGd,wr (show -9223372036854775808≤a0.2.1.2 - 1 by omega) (by omega),wr (show -9223372036854775808≤a0.2.1.1 - 1 by omega) (by omega),ye5,bne]
      rcases Nat.eq_zero_or_pos i with rfl | h0
      · cases (leb 0 (nth a0.2.2.2.2.2.2.2.2.1 ((0:Nat):Int) (0,[])).1&&leb (nth a0.2.2.2.2.2.2.2.2.1 ((0:Nat):Int) (0,[])).1 (a0.2.1.2 - 1))<;>cases (((nth a0.2.2.2.2.2.2.2.2.1 ((0:Nat):Int) (0,[])).2.length:Int)==a0.2.1.1 - 1)<;>cases ((nth a0.2.2.2.2.2.2.2.2.1 ((0:Nat):Int) (0,[])).2.all isW)<;>rfl
      · rw [show IntKind.i64.wrap ((i:Int) - 1)=((i - 1:Nat):Int) by rw [wr (by omega) (by omega)]; omega,zkO (show i - 1 < a0.2.2.2.2.2.2.2.2.1.length by omega),zjI (show (0:Int) < i by omega),decide_eq_true h0]
        cases (leb 0 (nth a0.2.2.2.2.2.2.2.2.1 (i:Int) (0,[])).1&&leb (nth a0.2.2.2.2.2.2.2.2.1 (i:Int) (0,[])).1 (a0.2.1.2 - 1))<;>cases (((nth a0.2.2.2.2.2.2.2.2.1 (i:Int) (0,[])).2.length:Int)==a0.2.1.1 - 1)<;>cases ((nth a0.2.2.2.2.2.2.2.2.1 (i:Int) (0,[])).2.all isW)<;>cases leb (nth a0.2.2.2.2.2.2.2.2.1 (i:Int) (0,[])).1 (nth a0.2.2.2.2.2.2.2.2.1 ((i - 1:Nat):Int) (0,[])).1<;>rfl) (by simp only [yaN,ykh,yku,zkm (Int.le_refl _),cond_false]) _ (by show _ < 18446744073709551616; omega)
  unfold yhW yhj yab
  rw [h1]
  cases (List.range a0.2.2.2.2.2.2.2.2.1.length).any (ye5 a0.2.1 a0.2.2.2.2.2.2.2.2.1)<;>rfl
def yk3 (a0:dA):Option (ResD yg4×MutD ycv):=bif ypP a0 then (fun n=>some ((n,()),())) (yhj a0) else none
theorem yHt (a0:dA) (h:ypP a0=true):yk3 a0=(fun n=>some ((n,()),())) (yhj a0):=by unfold yk3; rw [h]; rfl
def ysM:Con:=⟨ycv,yg4,fun x=>yk3 x.1⟩
theorem yHh:ConOk Try.prog 42 ysM:=(yD0).mono (fun x r hk h=>zkW h (fun hq=>yGr x.1 hk hq))
end
section
def yyY:Code:=(Try.f83.body).getD .skip
def yy9:Env:=zki TT [(129,ym7)] []
theorem yFI:FrOk Try.prog ⟨yy9,10,fun _=>none⟩ yyY:=zkp yc yd ⟨yvw,trivial⟩
def yHT:Nat→Option Seg:=fun _=>none
abbrev yj2:List Par:= [.rd tL]
abbrev yos:List OT:= [⟨false,tB,.fz⟩]
def ypV (a0:List Int):Option (ResD yos×MutD yj2) :=
  bif (leb (a0.length:Int) 12) then
    let r1:=yac a0
    some ((r1,()),())
  else
    some ((false,()),())
theorem yLQ (x:InD yj2):zjH ⟨yy9,10,yHT⟩ Try.f83.results.toList yyY yj2 yos x=ypV x.1:=by kernel_rfl
theorem yI5:ConOk Try.prog 83 ⟨yj2,yos,fun x=>ypV x.1⟩:=zkh (yFI) Try.func83 (by kernel_rfl) (by kernel_rfl) Try.ntmps83.symm (by decide) (fun x r h=>(yLQ x).trans h)
def yhi (a0:List Int):Bool :=
  bif (leb (a0.length:Int) 12) then
    let r1:=yac a0
    r1
  else
    false
def ywF:Con:=⟨yj2,yos,fun x=>(fun n=>some ((n,()),())) (yhi x.1)⟩
theorem yK4 (a0:List Int):ypV a0=(fun n=>some ((n,()),())) (yhi a0):=zkS (p:=fun (n:Bool)=>((n,()),())) (zkx (p:=fun (n:Bool)=>((n,()),())) rfl rfl)
theorem yLn:ConOk Try.prog 83 ywF:=(yI5).mono (fun x r _ h=>(yK4 x.1).trans h)
theorem yBY:yhi=yI:=funext fun s=>by
  unfold yhi yI yac
  rw [show yL=isW from funext fun x=>by unfold yL; rw [yaj,ybB]; rfl]
  cases leb (s.length:Int) 12<;>rfl
end
end
end Go.Tf
