/- Functions of the program, and what they come to. -/
import Derived.Test.YtgmadfpnljibhaaGreatArrsF11
namespace Go.Tf
noncomputable section
open Go.Proofs
set_option synthInstance.maxHeartbeats 400000
set_option synthInstance.maxSize 10000
set_option linter.unusedVariables false
set_option linter.unusedSimpArgs false
set_option maxRecDepth 100000
section
def yDd:Code:=(Tryz.f129.body).getD .skip
def yDR:Env:=zj2 TT [(133,ygo),(200,ydd),(219,yhc),(220,yok),(221,ywU),(222,yol)] []
theorem yKo:FrOk Tryz.prog ⟨yDR,51,fun _=>none⟩ yDd:=zj6 yc yd ⟨ym3,yho,you,yw5,yIp,yCv,trivial⟩
def yLL:Nat→Option Seg:=fun _=>none
abbrev yeV:List Par:= [.rd tM,.rd tI,.rd tL]
abbrev ynV:List OT:= [⟨false,tM,(.pr (.ow (.ow .fz)) (.pr (.ow (.pr .fz (.ow .fz))) (.pr .fz (.ow .fz))))⟩,⟨false,tB,.fz⟩]
def yjX (a0:dM) (a1:Int) (a2:List Int):Option (ResD ynV×MutD yeV) :=
 let r1:=yaf a0
 let r2:=yae a0
 bif (!(!r2)) then
 bif (!a0.2.2.1) then
 let r3:=yba a0 a1
 bif (!(!r3)) then
 let r4:=yhg a2
 bif (!(!r4)) then
 bif ((a0.2.1.length:Int)==60) then
 some ((r1,false,()),())
 else
 let r5:=yu a2
 bif (zjR r1.2.1.length ([(a1,r5)]:List dW).length 32) then
 let r6:=ybm r1.2.2.2 a1
 some (((r1.1,(r1.2.1++([(a1,r5)]:List dW)),r1.2.2.1,r6),true,()),())
 else none
 else
 some ((r1,false,()),())
 else
 some ((r1,false,()),())
 else
 some ((r1,false,()),())
 else
 some ((r1,false,()),())
theorem ySa (x:InD yeV):zjx ⟨yDR,51,yLL⟩ Tryz.f129.results.toList yDd yeV ynV x=yjX x.1 x.2.1 x.2.2.1:=by kernel_rfl
theorem yNj:ConOk Tryz.prog 129 ⟨yeV,ynV,fun x=>yjX x.1 x.2.1 x.2.2.1⟩:=zj1 (yKo) Tryz.func129 (by kernel_rfl) (by kernel_rfl) Tryz.ntmps129.symm (by decide) (fun x r h=>(ySa x).trans h)
def ybA (a0:dM) (a1:Int) (a2:List Int):dM×Bool:=ya8 a0 a1 a2
theorem yP8 (a0:dM) (a1:Int) (a2:List Int) (hk:zi2 yeV (a0,a1,a2,())):yjX a0 a1 a2=(fun n=>some ((n.1,n.2,()),())) (ybA a0 a1 a2):=by
 have hb1:a0.1.length * 24≤2 ^ 47:=hk.1.1.1
 unfold yjX ybA ya8 yjl
 simp only [yaf,yae,yba,yP,ypA (show a0.1.length≤1152921504606846976 by omega),yE6,yu,ybm]
 cases hm:yq a0
 ·rfl
 have hc:=(ya9 hm).2.2.2.2.2
 cases a0.2.2.1
 ·cases inb a1 a0.1.length
  ·rfl
  cases yS a2
  ·rfl
  by_cases h:(a0.2.1.length:Int) < 60
  ·rw [zj4 h,show ((a0.2.1.length:Int)==60)=false from beq_eq_false_iff_ne.2 (by omega),zka.2 (show (a0.2.1.length+ [(a1,a2)].length) * 32≤140737488355328 by simp only [List.length_cons,List.length_nil]; omega)]; rfl
  ·rw [zkx (by omega),show ((a0.2.1.length:Int)==60)=true from beq_iff_eq.2 (by omega)]; rfl
 ·rfl
def yrf:Con:=⟨yeV,ynV,fun x=>(fun n=>some ((n.1,n.2,()),())) (ybA x.1 x.2.1 x.2.2.1)⟩
theorem yCu:ConOk Tryz.prog 129 yrf:=(yNj).mono (fun x r hk h=>(yP8 x.1 x.2.1 x.2.2.1 hk).trans h)
end
section
def yFi:Code:=(Tryz.f218.body).getD .skip
def yF0:Env:=zj2 TT [(122,ygn),(126,yv),(131,yu3)] []
theorem yMg:FrOk Tryz.prog ⟨yF0,44,fun _=>none⟩ yFi:=zj6 yc yd ⟨ym2,yB,yGG,trivial⟩
def yNZ:Nat→Option Seg:=fun _=>none
abbrev ykl:List Par:= [.rd tS]
abbrev yqf:List OT:= [⟨false,tB,.fz⟩]
def ytv (a0:dS):Option (ResD yqf×MutD ykl) :=
 let r1:=yf a0.1 1 60000
 bif r1 then
 let r2:=yf a0.2.1 0 60000
 bif r2 then
 let r3:=yf a0.2.2.2.2.2.1 0 60000
 bif r3 then
 let r4:=ya6 (a0.2.2.2.1,a0.2.2.2.2.1)
 bif r4 then
 let r5:=yf a0.2.2.1 0 (IntKind.i64.wrap (a0.2.2.2.1 - 1))
 bif r5 then
 let r6:=yfr (a0.2.2.2.1,a0.2.2.2.2.1) a0.2.2.2.2.2.2.1 a0.2.2.2.2.2.2.2
 some ((r6,()),())
 else
 some ((false,()),())
 else
 some ((false,()),())
 else
 some ((false,()),())
 else
 some ((false,()),())
 else
 some ((false,()),())
theorem yVs (x:InD ykl):zjx ⟨yF0,44,yNZ⟩ Tryz.f218.results.toList yFi ykl yqf x=ytv x.1:=by kernel_rfl
theorem yQp:ConOk Tryz.prog 218 ⟨ykl,yqf,fun x=>ytv x.1⟩:=zj1 (yMg) Tryz.func218 (by kernel_rfl) (by kernel_rfl) Tryz.ntmps218.symm (by decide) (fun x r h=>(yVs x).trans h)
def ybd (a0:dS):Bool :=
 let r1:=yf a0.1 1 60000
 bif r1 then
 let r2:=yf a0.2.1 0 60000
 bif r2 then
 let r3:=yf a0.2.2.2.2.2.1 0 60000
 bif r3 then
 let r4:=ya6 (a0.2.2.2.1,a0.2.2.2.2.1)
 bif r4 then
 let r5:=yf a0.2.2.1 0 (IntKind.i64.wrap (a0.2.2.2.1 - 1))
 bif r5 then
 let r6:=yfr (a0.2.2.2.1,a0.2.2.2.2.1) a0.2.2.2.2.2.2.1 a0.2.2.2.2.2.2.2
 r6
 else
 false
 else
 false
 else
 false
 else
 false
 else
 false
def ylE:Con:=⟨ykl,yqf,fun x=>(fun n=>some ((n,()),())) (ybd x.1)⟩
theorem yTu (a0:dS):ytv a0=(fun n=>some ((n,()),())) (ybd a0):=zkp (p:=fun (n:Bool)=>((n,()),())) (zkb (p:=fun (n:Bool)=>((n,()),())) (zkb (p:=fun (n:Bool)=>((n,()),())) (zkb (p:=fun (n:Bool)=>((n,()),())) (zkb (p:=fun (n:Bool)=>((n,()),())) (zkb (p:=fun (n:Bool)=>((n,()),())) rfl rfl) rfl) rfl) rfl) rfl)
theorem yvG:ConOk Tryz.prog 218 ylE:=(yQp).mono (fun x r _ h=>(yTu x.1).trans h)
theorem yyO (s:dS):ybd s=yA s:=by
 rw [Bool.eq_iff_iff,yFg]
 unfold ybd yfr
 simp only [yKJ,yP]
 cases hg:yb (s.2.2.2.1,s.2.2.2.2.1)
 ·cases ya s.1 1 60000<;>cases ya s.2.1 0 60000<;>cases ya s.2.2.2.2.2.1 0 60000<;>simp
 have hg2:=yi.1 hg
 simp only at hg2
 rw [wr (show -9223372036854775808≤s.2.2.2.1 - 1 by omega) (by omega)]
 simp only [← yvo]
 cases ya s.1 1 60000
 ·simp
 cases ya s.2.1 0 60000
 ·simp
 cases ya s.2.2.2.2.2.1 0 60000
 ·simp
 cases ya s.2.2.1 0 (s.2.2.2.1 - 1)
 ·simp
 cases hl:ya s.2.2.2.2.2.2.1 (-1) (s.2.2.2.1 - 1)
 ·simp
 cases ya s.2.2.2.2.2.2.2 0 s.2.2.2.2.1
 ·simp
 have:=yvo.1 hl
 by_cases h0:s.2.2.2.2.2.2.2=0
 ·simp [h0]
 ·simp [h0]; omega
end
section
def yDb:Code:=(Tryz.f201.body).getD .skip
def yDP:Env:=zj2 TT [(218,ylE)] []
theorem yKm:FrOk Tryz.prog ⟨yDP,24,fun _=>none⟩ yDb:=zj6 yc yd ⟨yvG,trivial⟩
def yLJ:Nat→Option Seg:=fun _=>none
abbrev yh6:List Par:= [.rd tS]
abbrev ynT:List OT:= [⟨false,tL,(.ow .fz)⟩]
def yrw (a0:dS):Option (ResD ynT×MutD yh6) :=
 let r1:=ybd a0
 bif (!r1) then
 some (([],()),())
 else
 some ((([21317,a0.1,a0.2.1,a0.2.2.1,a0.2.2.2.1,a0.2.2.2.2.1,a0.2.2.2.2.2.1,(IntKind.i64.wrap (a0.2.2.2.2.2.2.1+1)),a0.2.2.2.2.2.2.2]:List Int),()),())
theorem yR8 (x:InD yh6):zjx ⟨yDP,24,yLJ⟩ Tryz.f201.results.toList yDb yh6 ynT x=yrw x.1:=by kernel_rfl
theorem yNh:ConOk Tryz.prog 201 ⟨yh6,ynT,fun x=>yrw x.1⟩:=zj1 (yKm) Tryz.func201 (by kernel_rfl) (by kernel_rfl) Tryz.ntmps201.symm (by decide) (fun x r h=>(yR8 x).trans h)
def yfb (a0:dS):(List Int) :=
 let r1:=ybd a0
 bif (!r1) then
 []
 else
 ([21317,a0.1,a0.2.1,a0.2.2.1,a0.2.2.2.1,a0.2.2.2.2.1,a0.2.2.2.2.2.1,(IntKind.i64.wrap (a0.2.2.2.2.2.2.1+1)),a0.2.2.2.2.2.2.2]:List Int)
def yzN:Con:=⟨yh6,ynT,fun x=>(fun n=>some ((n,()),())) (yfb x.1)⟩
theorem yP6 (a0:dS):yrw a0=(fun n=>some ((n,()),())) (yfb a0):=zkp (p:=fun (n:(List Int))=>((n,()),())) (zkb (p:=fun (n:(List Int))=>((n,()),())) rfl rfl)
theorem yQS:ConOk Tryz.prog 201 yzN:=(yNh).mono (fun x r _ h=>(yP6 x.1).trans h)
theorem y0C (s:dS):yfb s=yl s:=by
 unfold yfb yl
 rw [yyO]
end
section
def yy6:Code:=(Tryz.f127.body).getD .skip
def yzr:Env:=zj2 TT [(129,yrf),(201,yzN),(218,ylE),(219,yhc)] []
theorem yGY:FrOk Tryz.prog ⟨yzr,23,fun _=>none⟩ yy6:=zj6 yc yd ⟨yCu,yQS,yvG,you,trivial⟩
def yIB:Nat→Option Seg:=fun _=>none
abbrev yfy:List Par:= [.rd tM,.rd tS]
abbrev yjx:List OT:= [⟨false,tM,(.pr (.ow (.ow .fz)) (.pr (.ow (.pr .fz (.ow .fz))) (.pr .fz (.ow .fz))))⟩]
def ynt (a0:dM) (a1:dS):Option (ResD yjx×MutD yfy) :=
 let r1:=ybd a1
 bif (!r1) then
 let r2:=yaf a0
 some ((r2,()),())
 else
 let r3:=yfb a1
 let r4:=ybA a0 (a1.2.1.tmod 2) r3
 some ((r4.1,()),())
theorem yL9 (x:InD yfy):zjx ⟨yzr,23,yIB⟩ Tryz.f127.results.toList yy6 yfy yjx x=ynt x.1 x.2.1:=by kernel_rfl
theorem yI9:ConOk Tryz.prog 127 ⟨yfy,yjx,fun x=>ynt x.1 x.2.1⟩:=zj1 (yGY) Tryz.func127 (by kernel_rfl) (by kernel_rfl) Tryz.ntmps127.symm (by decide) (fun x r h=>(yL9 x).trans h)
def yf2 (a0:dM) (a1:dS):dM :=
 let r1:=ybd a1
 bif (!r1) then
 let r2:=yaf a0
 r2
 else
 let r3:=yfb a1
 let r4:=ybA a0 (a1.2.1.tmod 2) r3
 r4.1
def ywf:Con:=⟨yfy,yjx,fun x=>(fun n=>some ((n,()),())) (yf2 x.1 x.2.1)⟩
theorem yK7 (a0:dM) (a1:dS):ynt a0 a1=(fun n=>some ((n,()),())) (yf2 a0 a1):=zkp (p:=fun (n:dM)=>((n,()),())) (zkb (p:=fun (n:dM)=>((n,()),())) rfl rfl)
theorem yLf:ConOk Tryz.prog 127 ywf:=(yI9).mono (fun x r _ h=>(yK7 x.1 x.2.1).trans h)
end
section
def yFm:Code:=(Tryz.f128.body).getD .skip
def yF4:Env:=zj2 TT [] []
theorem yMp:FrOk Tryz.prog ⟨yF4,23,fun _=>none⟩ yFm:=zj6 yc yd trivial
def yN3:Nat→Option Seg:=fun _=>none
abbrev ykt:List Par:= [.rd tA,.rd tI]
abbrev yqk:List OT:= [⟨false,tS,(.pr .fz (.pr .fz (.pr .fz (.pr .fz (.pr .fz (.pr .fz (.pr .fz .fz)))))))⟩]
def yty (a0:dA) (a1:Int):Option (ResD yqk×MutD ykt) :=
 some (((a0.1,a0.2.2.2.2.2.2.2.1,a1,a0.2.1.1,a0.2.1.2,a0.2.2.2.2.2.2.1,a0.2.2.2.1,a0.2.2.2.2.1),()),())
theorem yVy (x:InD ykt):zjx ⟨yF4,23,yN3⟩ Tryz.f128.results.toList yFm ykt yqk x=yty x.1 x.2.1:=by kernel_rfl
theorem yQv:ConOk Tryz.prog 128 ⟨ykt,yqk,fun x=>yty x.1 x.2.1⟩:=zj1 (yMp) Tryz.func128 (by kernel_rfl) (by kernel_rfl) Tryz.ntmps128.symm (by decide) (fun x r h=>(yVy x).trans h)
def yqD (a0:dA) (a1:Int):dS :=
 (a0.1,a0.2.2.2.2.2.2.2.1,a1,a0.2.1.1,a0.2.1.2,a0.2.2.2.2.2.2.1,a0.2.2.2.1,a0.2.2.2.2.1)
def yBA:Con:=⟨ykt,yqk,fun x=>(fun n=>some ((n,()),())) (yqD x.1 x.2.1)⟩
theorem yTA (a0:dA) (a1:Int):yty a0 a1=(fun n=>some ((n,()),())) (yqD a0 a1):=zkp (p:=fun (n:dS)=>((n,()),())) rfl
theorem yUv:ConOk Tryz.prog 128 yBA:=(yQv).mono (fun x r _ h=>(yTA x.1 x.2.1).trans h)
end
section
def yhY:Code:=(Tryz.f130.body).getD .skip
def ynF:Env:=zj2 TT [(133,ygo),(200,ydd),(219,yhc)] []
theorem yKh:FrOk Tryz.prog ⟨ynF,34,fun _=>none⟩ yhY:=zj6 yc yd ⟨ym3,yho,you,trivial⟩
def yze:Nat→Option Seg:=fun _=>none
def ya0:Shape:=⟨[(2,false,[.ptr 64 0]),(3,false,[.ptr 4224 0]),(17,false,[.br tW]),(18,false,[.int .i64]),(19,false,[.int .i64])],[(64,[.nil,.nil,.bool,.nil]),(4224,[.at 800000000,.at 800000001,.bool,.at 800000002])],[(800000000,tL,(.ow .fz)),(800000001,tW,(.pr .fz (.ow .fz))),(800000002,tI,.fz)]⟩
def yex:Shape:=⟨[(2,false,[.ptr 64 0]),(3,false,[.ptr 4224 0]),(17,false,[.br tW]),(18,false,[.int .i64]),(19,false,[.ci .i64 0])],[(64,[.nil,.nil,.bool,.nil]),(4224,[.at 800000000,.at 800000001,.bool,.at 800000002])],[(800000000,tL,(.ow .fz)),(800000001,tW,(.pr .fz (.ow .fz))),(800000002,tI,.fz)]⟩
def yeq:Shape:=⟨[(2,false,[.ptr 64 0]),(3,false,[.ptr 4224 0])],[(64,[.nil,.nil,.bool,.nil]),(4224,[.at 800000000,.at 800000001,.bool,.at 800000002])],[(800000000,tL,(.ow .fz)),(800000001,tW,(.pr .fz (.ow .fz))),(800000002,tI,.fz)]⟩
def yiO:Shape:=⟨[],[],[]⟩
abbrev yno (v0:List dW) (v1 v2:Int) (v3 v4:dM):(ya0).X:=((((),()),((),()),(v0,()),(v1,()),(v2,()),()),(((),(),v3.2.2.1,(),()),((),(),v4.2.2.1,(),()),()),(v4.1,v4.2.1,v4.2.2.2,()))
abbrev yIZ (v0:List dW) (v1:Int) (v2 v3:dM):(yex).X:=((((),()),((),()),(v0,()),(v1,()),((),()),()),(((),(),v2.2.2.1,(),()),((),(),v3.2.2.1,(),()),()),(v3.1,v3.2.1,v3.2.2.2,()))
abbrev ywB (v0 v1:dM):(yeq).X:=((((),()),((),()),()),(((),(),v0.2.2.1,(),()),((),(),v1.2.2.1,(),()),()),(v1.1,v1.2.1,v1.2.2.2,()))
def ynx (v0:List dW) (v1 v2:Int) (v3 v4:Bool) (v5:List (List Int)) (v6:List dW) (v7:List Int):Option ((ya0).X ⊕ ((yeq).X ⊕ (yiO).X)) :=
 bif (ltb v2 v1) then
 bif (inb v2 v0.length) then
 let r4:=yu ((nth v0 v2 (0,[])).2)
 bif (inb ((nth v0 v2 (0,[])).1) v5.length) then
 some (.inl ((((),()),((),()),(v0,()),(v1,()),((IntKind.i64.wrap (v2+1)),()),()),(((),(),v3,(),()),((),(),v4,(),()),()),((v5.set ((nth v0 v2 (0,[])).1).toNat r4),v6,v7,())))
 else none
 else none
 else
 some (.inr (.inl ((((),()),((),()),()),(((),(),v3,(),()),((),(),v4,(),()),()),(v5,v6,v7,()))))
def ybg (x:(ya0).X):=ynx x.1.2.2.1.1 x.1.2.2.2.1.1 x.1.2.2.2.2.1.1 x.2.1.1.2.2.1 x.2.1.2.1.2.2.1 x.2.2.1 x.2.2.2.1 x.2.2.2.2.1
def ywl (x:(yex).X):(ya0).X:=((((),()),((),()),(x.1.2.2.1.1,()),(x.1.2.2.2.1.1,()),(0,()),()),(((),(),x.2.1.1.2.2.1,(),()),((),(),x.2.1.2.1.2.2.1,(),()),()),(x.2.2.1,x.2.2.2.1,x.2.2.2.2.1,()))
def yxM:Code:=(zdD yhY 64 244).getD .skip
theorem yJY:zdD yhY 64 61=some (.block 0 (.loop yxM)):=by kernel_rfl
theorem yLo (x:(ya0).X):zg0 ⟨ynF,34,yze⟩ 0 yxM 244 ya0 yeq yiO x=ybg x:=by kernel_rfl
def ywt (x:(yex).X):Nat:=18446744073709551616
def yo7 (x:(yex).X):Option ((yeq).X ⊕ (yiO).X):=zz ybg (ywt x) (ywl x)
def ywG:Seg:=⟨yex,yeq,yiO,yo7⟩
def yzf:Nat→Option Seg:=fun q=>bif Nat.beq q 61 then some ywG else yze q
theorem yKi:FrOk Tryz.prog ⟨ynF,34,yzf⟩ yhY:=(yKh).loop (sg:=ywG) ya0 ywl (by decide) yJY ybg ywt (by decide) (fun _=>rfl) (fun x r _ h=>h) yLo
abbrev yeQ:List Par:= [.rd tM]
abbrev ynP:List OT:= [⟨false,tM,(.pr (.ow (.ow .fz)) (.pr (.ow (.pr .fz (.ow .fz))) (.pr .fz (.ow .fz))))⟩]
def yjS (a0:dM):Option (ResD ynP×MutD yeQ) :=
 let r1:=yaf a0
 let r2:=yae a0
 bif (!(!r2)) then
 bif a0.2.2.1 then
 some ((r1,()),())
 else
 zkh (yo7 ((((),()),((),()),(a0.2.1,()),((a0.2.1.length:Int),()),((),()),()),(((),(),false,(),()),((),(),r1.2.2.1,(),()),()),(r1.1,r1.2.1,r1.2.2.2,()))) (fun y4 =>
 some (((y4.2.2.1,[],y4.2.1.2.1.2.2.1,y4.2.2.2.2.1),()),())) (fun y4 =>
 none)
 else
 some ((r1,()),())
theorem yR4 (x:InD yeQ):zjx ⟨ynF,34,yzf⟩ Tryz.f130.results.toList yhY yeQ ynP x=yjS x.1:=by kernel_rfl
theorem yNd:ConOk Tryz.prog 130 ⟨yeQ,ynP,fun x=>yjS x.1⟩:=zj1 (yKi) Tryz.func130 (by kernel_rfl) (by kernel_rfl) Tryz.ntmps130.symm (by decide) (fun x r h=>(yR4 x).trans h)
def yi7 (a0:dM):dM:=ybx a0
theorem yP2 (a0:dM) (hk:zi2 yeQ (a0,())):yjS a0=(fun n=>some ((n,()),())) (yi7 a0):=by
 have hb2:a0.2.1.length * 32≤2 ^ 47:=hk.1.2.1.1
 unfold yjS yi7 ybx
 simp only [yaf,yae]
 cases hm:yq a0
 ·rfl
 have h1:yo7 (yIZ a0.2.1 a0.2.1.length noMem a0)=some (.inl (ywB noMem (yde (fun _=>true) a0.2.1 a0.1,a0.2))) :=
  zj8 (step:=ybg) a0.2.1.length (fun i s=>yno a0.2.1 a0.2.1.length i noMem (s,a0.2)) (yfZ (fun _=>true) a0.2.1) (fun i s=>s.length=a0.1.length) (fun s=> .inl (ywB noMem (s,a0.2))) (fun i s hi hs=>by
   have hw:=(yZ6 hm hi).1
   refine ⟨?_,yG4.trans hs⟩
   simp only [ybg,yno,ynx,zj4 (show (i:Int) < a0.2.1.length by omega),cond_true,wr (show -9223372036854775808≤(i:Int)+1 by omega) (by omega),Int.natCast_add,Int.natCast_one,Int.toNat_natCast,zkl hi,hs,hw,yfZ,yu]) (fun s hs=>by simp only [ybg,yno,ynx,zkx (Int.le_refl _),cond_false]) a0.1 rfl _ (by show _ < 18446744073709551616; omega)
 rw [h1]
 cases hf:a0.2.2.1
 ·exact congrArg (fun z=>some (((yde (fun _=>true) a0.2.1 a0.1,([]:List dW),z,a0.2.2.2),()),())) hf
 ·rfl
def yzJ:Con:=⟨yeQ,ynP,fun x=>(fun n=>some ((n,()),())) (yi7 x.1)⟩
theorem yQO:ConOk Tryz.prog 130 yzJ:=(yNd).mono (fun x r hk h=>(yP2 x.1 hk).trans h)
end
end
end Go.Tf
