/- Functions of the program, and what they come to. -/
import Derived.Test.YtgmadfpnljibhaaGreatArrsF1
namespace Go.Tf
noncomputable section
open Go.Proofs
set_option synthInstance.maxHeartbeats 400000
set_option synthInstance.maxSize 10000
set_option linter.unusedVariables false
set_option linter.unusedSimpArgs false
set_option maxRecDepth 100000
section
def yHq:Code:=(Tryz.f108.body).getD .skip
def yHX:Env:=zj2 TT [(126,yv)] []
theorem yOE:FrOk Tryz.prog ⟨yHX,9,fun _=>none⟩ yHq:=zj6 yc yd ⟨yB,trivial⟩
def yRg:Nat→Option Seg:=fun _=>none
abbrev ymk:List Par:= [.rd tI]
abbrev ysc:List OT:= [⟨false,tI,.fz⟩]
def yvJ (a0:Int):Option (ResD ysc×MutD ymk) :=
 let r1:=yf a0 0 1099511627776
 bif (!r1) then
 some (((-1),()),())
 else
 some (((IntKind.i64.wrap ((IntKind.i64.wrap (a0+2))+4)),()),())
theorem yXZ (x:InD ymk):zjx ⟨yHX,9,yRg⟩ Tryz.f108.results.toList yHq ymk ysc x=yvJ x.1:=by kernel_rfl
theorem yTQ:ConOk Tryz.prog 108 ⟨ymk,ysc,fun x=>yvJ x.1⟩:=zj1 (yOE) Tryz.func108 (by kernel_rfl) (by kernel_rfl) Tryz.ntmps108.symm (by decide) (fun x r h=>(yXZ x).trans h)
def ymQ (a0:Int):Int :=
 let r1:=yf a0 0 1099511627776
 bif (!r1) then
 (-1)
 else
 (IntKind.i64.wrap ((IntKind.i64.wrap (a0+2))+4))
def yu0:Con:=⟨ymk,ysc,fun x=>(fun n=>some ((n,()),())) (ymQ x.1)⟩
theorem yV2 (a0:Int):yvJ a0=(fun n=>some ((n,()),())) (ymQ a0):=zkp (p:=fun (n:Int)=>((n,()),())) (zkb (p:=fun (n:Int)=>((n,()),())) rfl rfl)
theorem yGE:ConOk Tryz.prog 108 yu0:=(yTQ).mono (fun x r _ h=>(yV2 x.1).trans h)
end
section
def yHC:Code:=(Tryz.f141.body).getD .skip
def yH9:Env:=zj2 TT [(135,yr)] []
theorem yOV:FrOk Tryz.prog ⟨yH9,9,fun _=>none⟩ yHC:=zj6 yc yd ⟨yx,trivial⟩
def yRs:Nat→Option Seg:=fun _=>none
abbrev ymr:List Par:= [.rd tI]
abbrev ysp:List OT:= [⟨false,tI,.fz⟩]
def yvQ (a0:Int):Option (ResD ysp×MutD ymr) :=
 let r1:=ya a0 0 1099511627776
 bif (!r1) then
 some (((-1),()),())
 else
 some (((IntKind.i64.wrap ((IntKind.i64.wrap (a0+2))+4)),()),())
theorem yYd (x:InD ymr):zjx ⟨yH9,9,yRs⟩ Tryz.f141.results.toList yHC ymr ysp x=yvQ x.1:=by kernel_rfl
theorem yT4:ConOk Tryz.prog 141 ⟨ymr,ysp,fun x=>yvQ x.1⟩:=zj1 (yOV) Tryz.func141 (by kernel_rfl) (by kernel_rfl) Tryz.ntmps141.symm (by decide) (fun x r h=>(yYd x).trans h)
def yaq (a0:Int):Int :=
 let r1:=ya a0 0 1099511627776
 bif (!r1) then
 (-1)
 else
 (IntKind.i64.wrap ((IntKind.i64.wrap (a0+2))+4))
def yc0:Con:=⟨ymr,ysp,fun x=>(fun n=>some ((n,()),())) (yaq x.1)⟩
theorem yWg (a0:Int):yvQ a0=(fun n=>some ((n,()),())) (yaq a0):=zkp (p:=fun (n:Int)=>((n,()),())) (zkb (p:=fun (n:Int)=>((n,()),())) rfl rfl)
theorem ygu:ConOk Tryz.prog 141 yc0:=(yT4).mono (fun x r _ h=>(yWg x.1).trans h)
theorem yd9 (s:Int):yaq s=dataAt s:=by
 unfold yaq dataAt
 rw [ybX]
 by_cases h:0≤s∧s≤1099511627776
 ·rw [zkw h.1,zkw h.2,wr (show -9223372036854775808≤s+2 by omega) (by omega),wr (by omega) (by omega)]
  show s+2+4=s+6
  omega
 ·cases h1:(leb 0 s&&leb s 1099511627776)
  ·rfl
  ·rw [Bool.and_eq_true,zjE,zjE]at h1; exact absurd h1 h
theorem yGD (s:Int):ymQ s=dataAt s:=yd9 s
end
section
def yHw:Code:=(Tryz.f179.body).getD .skip
def yH3:Env:=zj2 TT [(126,yv)] []
theorem yOM:FrOk Tryz.prog ⟨yH3,5,fun _=>none⟩ yHw:=zj6 yc yd ⟨yB,trivial⟩
def yRm:Nat→Option Seg:=fun _=>none
abbrev ymn:List Par:= [.rd tI]
abbrev ysj:List OT:= [⟨false,tB,.fz⟩]
def yvM (a0:Int):Option (ResD ysj×MutD ymn) :=
 let r1:=yf a0 0 65535
 some ((r1,()),())
theorem yX6 (x:InD ymn):zjx ⟨yH3,5,yRm⟩ Tryz.f179.results.toList yHw ymn ysj x=yvM x.1:=by kernel_rfl
theorem yTX:ConOk Tryz.prog 179 ⟨ymn,ysj,fun x=>yvM x.1⟩:=zj1 (yOM) Tryz.func179 (by kernel_rfl) (by kernel_rfl) Tryz.ntmps179.symm (by decide) (fun x r h=>(yX6 x).trans h)
def y5 (a0:Int):Bool :=
 let r1:=yf a0 0 65535
 r1
def yEp:Con:=⟨ymn,ysj,fun x=>(fun n=>some ((n,()),())) (y5 x.1)⟩
theorem yV9 (a0:Int):yvM a0=(fun n=>some ((n,()),())) (y5 a0):=zkp (p:=fun (n:Bool)=>((n,()),())) rfl
theorem yW6:ConOk Tryz.prog 179 yEp:=(yTX).mono (fun x r _ h=>(yV9 x.1).trans h)
end
section
def yHv:Code:=(Tryz.f220.body).getD .skip
def yH2:Env:=zj2 TT [(126,yv)] []
theorem yOL:FrOk Tryz.prog ⟨yH2,11,fun _=>none⟩ yHv:=zj6 yc yd ⟨yB,trivial⟩
def yRl:Nat→Option Seg:=fun _=>none
abbrev ymm:List Par:= [.rd tM,.rd tI]
abbrev ysi:List OT:= [⟨false,tB,.fz⟩]
def yvL (a0:dM) (a1:Int):Option (ResD ysi×MutD ymm) :=
 let r1:=yf a1 0 (IntKind.i64.wrap ((a0.1.length:Int) - 1))
 some ((r1,()),())
theorem yX5 (x:InD ymm):zjx ⟨yH2,11,yRl⟩ Tryz.f220.results.toList yHv ymm ysi x=yvL x.1 x.2.1:=by kernel_rfl
theorem yTW:ConOk Tryz.prog 220 ⟨ymm,ysi,fun x=>yvL x.1 x.2.1⟩:=zj1 (yOL) Tryz.func220 (by kernel_rfl) (by kernel_rfl) Tryz.ntmps220.symm (by decide) (fun x r h=>(yX5 x).trans h)
def yba (a0:dM) (a1:Int):Bool :=
 let r1:=yf a1 0 (IntKind.i64.wrap ((a0.1.length:Int) - 1))
 r1
def yok:Con:=⟨ymm,ysi,fun x=>(fun n=>some ((n,()),())) (yba x.1 x.2.1)⟩
theorem yV8 (a0:dM) (a1:Int):yvL a0 a1=(fun n=>some ((n,()),())) (yba a0 a1):=zkp (p:=fun (n:Bool)=>((n,()),())) rfl
theorem yw5:ConOk Tryz.prog 220 yok:=(yTW).mono (fun x r _ h=>(yV8 x.1 x.2.1).trans h)
end
section
def ykc:Code:=(Tryz.f228.body).getD .skip
def yp8:Env:=zj2 TT [(179,yEp)] []
theorem yMq:FrOk Tryz.prog ⟨yp8,15,fun _=>none⟩ ykc:=zj6 yc yd ⟨yW6,trivial⟩
def yA1:Nat→Option Seg:=fun _=>none
def ydb:Shape:=⟨[(5,false,[.br tI]),(6,false,[.int .i64]),(7,false,[.int .i64])],[],[]⟩
def yju:Shape:=⟨[(5,false,[.br tI]),(6,false,[.int .i64]),(7,false,[.ci .i64 0])],[],[]⟩
def yjs:Shape:=⟨[],[],[]⟩
def yjF:Shape:=⟨[(2,false,[.bool])],[],[]⟩
def ypZ (v0:List Int) (v1 v2:Int):Option ((ydb).X ⊕ ((yjs).X ⊕ (yjF).X)) :=
 bif (ltb v2 v1) then
 bif (inb v2 v0.length) then
 let r2:=y5 (nth v0 v2 0)
 bif (!r2) then
 some (.inr (.inr (((false,()),()),(),())))
 else
 some (.inl (((v0,()),(v1,()),((IntKind.i64.wrap (v2+1)),()),()),(),()))
 else none
 else
 some (.inr (.inl ((),(),())))
def ybK (x:(ydb).X):=ypZ x.1.1.1 x.1.2.1.1 x.1.2.2.1.1
def yx3 (x:(yju).X):(ydb).X:=(((x.1.1.1,()),(x.1.2.1.1,()),(0,()),()),(),())
def yzA:Code:=(zdD ykc 64 52).getD .skip
theorem yL1:zdD ykc 64 13=some (.block 0 (.loop yzA)):=by kernel_rfl
theorem yNJ (x:(ydb).X):zg0 ⟨yp8,15,yA1⟩ 0 yzA 52 ydb yjs yjF x=ybK x:=by kernel_rfl
def yyg (x:(yju).X):Nat:=18446744073709551616
def yq8 (x:(yju).X):Option ((yjs).X ⊕ (yjF).X):=zz ybK (yyg x) (yx3 x)
def yyC:Seg:=⟨yju,yjs,yjF,yq8⟩
def yA2:Nat→Option Seg:=fun q=>bif Nat.beq q 13 then some yyC else yA1 q
theorem yMr:FrOk Tryz.prog ⟨yp8,15,yA2⟩ ykc:=(yMq).loop (sg:=yyC) ydb yx3 (by decide) yL1 ybK yyg (by decide) (fun _=>rfl) (fun x r _ h=>h) yNJ
abbrev ygi:List Par:= [.rd tL]
abbrev yql:List OT:= [⟨false,tB,.fz⟩]
def ylT (a0:List Int):Option (ResD yql×MutD ygi) :=
 zkh (yq8 (((a0,()),((a0.length:Int),()),((),()),()),(),())) (fun y2 =>
 some ((true,()),())) (fun y2 =>
 some ((y2.1.1.1,()),()))
theorem yVz (x:InD ygi):zjx ⟨yp8,15,yA2⟩ Tryz.f228.results.toList ykc ygi yql x=ylT x.1:=by kernel_rfl
theorem yQw:ConOk Tryz.prog 228 ⟨ygi,yql,fun x=>ylT x.1⟩:=zj1 (yMr) Tryz.func228 (by kernel_rfl) (by kernel_rfl) Tryz.ntmps228.symm (by decide) (fun x r h=>(yVz x).trans h)
def yav (a0:List Int):Bool:=a0.all y5
theorem yTB (a0:List Int) (hk:zi2 ygi (a0,())):ylT a0=(fun n=>some ((n,()),())) (yav a0):=by
 have hb:a0.length * 8≤2 ^ 47:=hk.1.1
 have hl:yq8 (((a0,()),((a0.length:Int),()),((),()),()),(),())=some (bif a0.all y5 then .inl ((),(),()) else .inr (((false,()),()),(),())) :=
  zjG (step:=ybK) a0 0 (fun i=>(((a0,()),((a0.length:Int),()),((i:Int),()),()),(),())) y5 _ _ (fun i hi=>by
   simp only [ybK,ypZ,zkl hi,zkm,zj4 (show (i:Int) < a0.length by omega),cond_true,wr (show -9223372036854775808≤(i:Int)+1 by omega) (by omega),Int.natCast_add,Int.natCast_one]
   cases y5 (a0.getD i 0)<;>rfl) (by simp only [ybK,ypZ,zkx (Int.le_refl _),cond_false]) _ (by show _ < 18446744073709551616; omega)
 unfold ylT yav
 rw [hl]
 cases a0.all y5<;>rfl
def ys7:Con:=⟨ygi,yql,fun x=>(fun n=>some ((n,()),())) (yav x.1)⟩
theorem yER:ConOk Tryz.prog 228 ys7:=(yQw).mono (fun x r hk h=>(yTB x.1 hk).trans h)
end
section
def yJo:Code:=(Tryz.f221.body).getD .skip
def yJH:Env:=zj2 TT [(228,ys7)] []
theorem ySz:FrOk Tryz.prog ⟨yJH,10,fun _=>none⟩ yJo:=zj6 yc yd ⟨yER,trivial⟩
def yU6:Nat→Option Seg:=fun _=>none
abbrev ype:List Par:= [.rd tL]
abbrev yuC:List OT:= [⟨false,tB,.fz⟩]
def yxi (a0:List Int):Option (ResD yuC×MutD ype) :=
 bif (leb (a0.length:Int) 12) then
 let r1:=yav a0
 some ((r1,()),())
 else
 some ((false,()),())
theorem yZx (x:InD ype):zjx ⟨yJH,10,yU6⟩ Tryz.f221.results.toList yJo ype yuC x=yxi x.1:=by kernel_rfl
theorem yWA:ConOk Tryz.prog 221 ⟨ype,yuC,fun x=>yxi x.1⟩:=zj1 (ySz) Tryz.func221 (by kernel_rfl) (by kernel_rfl) Tryz.ntmps221.symm (by decide) (fun x r h=>(yZx x).trans h)
def yhg (a0:List Int):Bool :=
 bif (leb (a0.length:Int) 12) then
 let r1:=yav a0
 r1
 else
 false
def ywU:Con:=⟨ype,yuC,fun x=>(fun n=>some ((n,()),())) (yhg x.1)⟩
theorem yYF (a0:List Int):yxi a0=(fun n=>some ((n,()),())) (yhg a0):=zkp (p:=fun (n:Bool)=>((n,()),())) (zkb (p:=fun (n:Bool)=>((n,()),())) rfl rfl)
theorem yIp:ConOk Tryz.prog 221 ywU:=(yWA).mono (fun x r _ h=>(yYF x.1).trans h)
theorem yE6:yhg=yS:=funext fun s=>by
 unfold yhg yS yav
 rw [show y5=isW from funext fun x=>by unfold y5; rw [yP,ybX]; rfl]
 cases leb (s.length:Int) 12<;>rfl
end
end
end Go.Tf
