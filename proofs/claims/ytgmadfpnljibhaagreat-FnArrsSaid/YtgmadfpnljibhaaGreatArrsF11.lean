/- Functions of the program, and what they come to. -/
import Derived.Test.YtgmadfpnljibhaaGreatArrsF10
namespace Go.Tf
noncomputable section
open Go.Proofs
set_option synthInstance.maxHeartbeats 400000
set_option synthInstance.maxSize 10000
set_option linter.unusedVariables false
set_option linter.unusedSimpArgs false
set_option maxRecDepth 100000
section
def yJr:Code:=(Tryz.f46.body).getD .skip
def yJK:Env:=zj2 TT [(134,ygp),(135,yr),(136,yEz),(137,yBI)] []
theorem ySI:FrOk Tryz.prog ⟨yJK,78,fun _=>none⟩ yJr:=zj6 yc yd ⟨ym4,yx,yXh,yUD,trivial⟩
def yU9:Nat→Option Seg:=fun _=>none
abbrev ykw:List Par:= [.rd tA]
abbrev yuI:List OT:= [⟨false,tB,.fz⟩]
def yqR (a0:dA):Option (ResD yuI×MutD ykw) :=
 let r1:=yb a0.2.1
 bif (!(!r1)) then
 let r2:=ya a0.1 1 60000
 bif (!(!r2)) then
 bnd (ysM a0) fun r3 =>
 bif (!(!r3.1.1)) then
 bnd (yqI a0) fun r4 =>
 bif (!r4.1.1) then
 some ((false,()),())
 else
 let r5:=ya a0.2.2.2.1 (-1) (IntKind.i64.wrap (a0.2.1.1 - 1))
 bif (!(!r5)) then
 let r6:=ya a0.2.2.2.2.1 0 a0.2.1.2
 bif (!(!r6)) then
 bif (a0.2.2.2.1==(-1)) then
 bif (a0.2.2.2.2.1 !=0) then
 some ((false,()),())
 else
 let r7:=ya a0.2.2.2.2.2.2.1 0 60000
 bif r7 then
 let r8:=ya a0.2.2.2.2.2.1 a0.2.2.2.2.2.2.1 60000
 bif r8 then
 bif (leb a0.2.2.2.2.2.1 (IntKind.i64.wrap (a0.2.2.2.2.2.2.1+4))) then
 let r9:=ya a0.2.2.2.2.2.2.2.1 0 60000
 bif r9 then
 let r10:=ya a0.2.2.2.2.2.2.2.2.2.1 (-1) 1000
 some ((r10,()),())
 else
 some ((false,()),())
 else
 some ((false,()),())
 else
 some ((false,()),())
 else
 some ((false,()),())
 else
 let r11:=ya a0.2.2.2.2.2.2.1 0 60000
 bif r11 then
 let r12:=ya a0.2.2.2.2.2.1 a0.2.2.2.2.2.2.1 60000
 bif r12 then
 bif (leb a0.2.2.2.2.2.1 (IntKind.i64.wrap (a0.2.2.2.2.2.2.1+4))) then
 let r13:=ya a0.2.2.2.2.2.2.2.1 0 60000
 bif r13 then
 let r14:=ya a0.2.2.2.2.2.2.2.2.2.1 (-1) 1000
 some ((r14,()),())
 else
 some ((false,()),())
 else
 some ((false,()),())
 else
 some ((false,()),())
 else
 some ((false,()),())
 else
 some ((false,()),())
 else
 some ((false,()),())
 else
 some ((false,()),())
 else
 some ((false,()),())
 else
 some ((false,()),())
theorem yZD (x:InD ykw):zjx ⟨yJK,78,yU9⟩ Tryz.f46.results.toList yJr ykw yuI x=yqR x.1:=by kernel_rfl
theorem yWG:ConOk Tryz.prog 46 ⟨ykw,yuI,fun x=>yqR x.1⟩:=zj1 (ySI) Tryz.func46 (by kernel_rfl) (by kernel_rfl) Tryz.ntmps46.symm (by decide) (fun x r h=>(yZD x).trans h)
def yeG (a0:dA):Bool:=yV a0
theorem yYL (a0:dA) (hk:zi2 ykw (a0,())):yqR a0=(fun n=>some ((n,()),())) (yeG a0):=by
 unfold yqR yeG yV
 simp only [ybX]
 cases hg:yb a0.2.1
 ·rfl
 have hg2:=yi.1 hg
 rw [yXn a0 hg,yUI a0 hg,wr (show -9223372036854775808≤a0.2.1.1 - 1 by omega) (by omega)]
 simp only [zkc,ymY,yk7,Bool.not_not,cond_true]
 cases (leb 1 a0.1&&leb a0.1 60000)
 ·rfl
 cases ymM a0
 ·rfl
 cases yaO a0.2.1 a0.2.2.2.2.2.2.2.2.1
 ·rfl
 cases (leb (-1) a0.2.2.2.1&&leb a0.2.2.2.1 (a0.2.1.1 - 1))
 ·rfl
 cases (leb 0 a0.2.2.2.2.1&&leb a0.2.2.2.2.1 a0.2.1.2)
 ·rfl
 have ht:(leb 0 a0.2.2.2.2.2.2.1&&leb a0.2.2.2.2.2.2.1 60000)=true→IntKind.i64.wrap (a0.2.2.2.2.2.2.1+4)=a0.2.2.2.2.2.2.1+4:=fun h=>by
  rw [Bool.and_eq_true,zjE,zjE]at h
  exact wr (by omega) (by omega)
 cases hT:(leb 0 a0.2.2.2.2.2.2.1&&leb a0.2.2.2.2.2.2.1 60000)
 ·cases (a0.2.2.2.1== -1)<;>cases (a0.2.2.2.2.1 !=0)<;>rfl
 rw [ht hT]
 cases (leb a0.2.2.2.2.2.2.1 a0.2.2.2.2.2.1&&leb a0.2.2.2.2.2.1 60000)
 ·cases (a0.2.2.2.1== -1)<;>cases (a0.2.2.2.2.1 !=0)<;>rfl
 cases leb a0.2.2.2.2.2.1 (a0.2.2.2.2.2.2.1+4)
 ·cases (a0.2.2.2.1== -1)<;>cases (a0.2.2.2.2.1 !=0)<;>rfl
 cases (leb 0 a0.2.2.2.2.2.2.2.1&&leb a0.2.2.2.2.2.2.2.1 60000)<;>cases (a0.2.2.2.1== -1)<;>cases (a0.2.2.2.2.1 !=0)<;>rfl
def ywX:Con:=⟨ykw,yuI,fun x=>(fun n=>some ((n,()),())) (yeG x.1)⟩
theorem yIs:ConOk Tryz.prog 46 ywX:=(yWG).mono (fun x r hk h=>(yYL x.1 hk).trans h)
end
section
def yHt:Code:=(Tryz.f99.body).getD .skip
def yH0:Env:=zj2 TT [(126,yv)] []
theorem yOJ:FrOk Tryz.prog ⟨yH0,10,fun _=>none⟩ yHt:=zj6 yc yd ⟨yB,trivial⟩
def yRj:Nat→Option Seg:=fun _=>none
abbrev yhI:List Par:= [.rd tI]
abbrev ysg:List OT:= [⟨false,tM,(.pr (.ow (.ow .fz)) (.pr (.ow (.pr .fz (.ow .fz))) (.pr .fz (.ow .fz))))⟩]
def yoA (a0:Int):Option (ResD ysg×MutD yhI) :=
 let r1:=yf a0 1 20
 bif (!r1) then
 some ((([],[],false,[]),()),())
 else
 bif (zjY a0 24) then
 some ((((List.replicate (a0).toNat ([]:List Int)),[],false,[]),()),())
 else none
theorem yX3 (x:InD yhI):zjx ⟨yH0,10,yRj⟩ Tryz.f99.results.toList yHt yhI ysg x=yoA x.1:=by kernel_rfl
theorem yTU:ConOk Tryz.prog 99 ⟨yhI,ysg,fun x=>yoA x.1⟩:=zj1 (yOJ) Tryz.func99 (by kernel_rfl) (by kernel_rfl) Tryz.ntmps99.symm (by decide) (fun x r h=>(yX3 x).trans h)
def ymT (a0:Int):dM:=yO a0
theorem yV6 (a0:Int) (hk:zi2 yhI (a0,())):yoA a0=(fun n=>some ((n,()),())) (ymT a0):=by
 unfold yoA ymT yO
 simp only [yP,ybX]
 cases hc:(leb 1 a0&&leb a0 20)
 ·rfl
 ·rw [Bool.and_eq_true,zjE,zjE]at hc
  rw [zkg.2 (show 0≤a0∧a0 * ((24:Nat):Int)≤140737488355328 by omega)]; rfl
def yEn:Con:=⟨yhI,ysg,fun x=>(fun n=>some ((n,()),())) (ymT x.1)⟩
theorem yW4:ConOk Tryz.prog 99 yEn:=(yTU).mono (fun x r hk h=>(yV6 x.1 hk).trans h)
end
section
def ycc:Code:=(Tryz.f219.body).getD .skip
def ygc:Env:=zj2 TT [(200,ydd)] []
theorem yMh:FrOk Tryz.prog ⟨ygc,49,fun _=>none⟩ ycc:=zj6 yc yd ⟨yho,trivial⟩
def yAX:Nat→Option Seg:=fun _=>none
def ybp:Shape:=⟨[(1,false,[.ptr 0 0]),(2,false,[.ptr 64 0]),(3,false,[.ptr 4480 0]),(15,false,[.br tL]),(16,false,[.int .i64]),(17,false,[.int .i64])],[(0,[.br tL,.br tW,.bool,.br tI]),(64,[.nil,.nil,.bool,.nil]),(4480,[.at 800000001,.nil,.bool,.at 800000000])],[(800000001,tL,(.ow .fz)),(800000000,tI,.fz)]⟩
def yfO:Shape:=⟨[(1,false,[.ptr 0 0]),(2,false,[.ptr 64 0]),(3,false,[.ptr 4480 0]),(15,false,[.br tL]),(16,false,[.int .i64]),(17,false,[.ci .i64 0])],[(0,[.br tL,.br tW,.bool,.br tI]),(64,[.nil,.nil,.bool,.nil]),(4480,[.at 800000001,.nil,.bool,.at 800000000])],[(800000001,tL,(.ow .fz)),(800000000,tI,.fz)]⟩
def yfE:Shape:=⟨[(1,false,[.ptr 0 0]),(2,false,[.ptr 64 0]),(3,false,[.ptr 4480 0])],[(0,[.br tL,.br tW,.bool,.br tI]),(64,[.nil,.nil,.bool,.nil]),(4480,[.at 800000000,.nil,.bool,.at 800000001])],[(800000000,tL,(.ow .fz)),(800000001,tI,.fz)]⟩
def yjD:Shape:=⟨[],[],[]⟩
abbrev ypE (v0:List (List Int)) (v1 v2:Int) (v3 v4 v5:dM):(ybp).X:=((((),()),((),()),((),()),(v0,()),(v1,()),(v2,()),()),((v3.1,v3.2.1,v3.2.2.1,v3.2.2.2,()),((),(),v4.2.2.1,(),()),((),(),v5.2.2.1,(),()),()),(v5.1,v5.2.2.2,()))
abbrev yKV (v0:List (List Int)) (v1:Int) (v2 v3 v4:dM):(yfO).X:=((((),()),((),()),((),()),(v0,()),(v1,()),((),()),()),((v2.1,v2.2.1,v2.2.2.1,v2.2.2.2,()),((),(),v3.2.2.1,(),()),((),(),v4.2.2.1,(),()),()),(v4.1,v4.2.2.2,()))
abbrev yyp (v0 v1 v2:dM):(yfE).X:=((((),()),((),()),((),()),()),((v0.1,v0.2.1,v0.2.2.1,v0.2.2.2,()),((),(),v1.2.2.1,(),()),((),(),v2.2.2.1,(),()),()),(v2.1,v2.2.2.2,()))
def ypW (v0:List (List Int)) (v1 v2:Int) (v3:List (List Int)) (v4:List dW) (v5:Bool) (v6:List Int) (v7 v8:Bool) (v9:List (List Int)) (v10:List Int):Option ((ybp).X ⊕ ((yfE).X ⊕ (yjD).X)) :=
 bif (ltb v2 v1) then
 bif (inb v2 v0.length) then
 let r4:=yu (nth v0 v2 [])
 bif (zjR v9.length ([r4]:List (List Int)).length 24) then
 some (.inl ((((),()),((),()),((),()),(v0,()),(v1,()),((IntKind.i64.wrap (v2+1)),()),()),((v3,v4,v5,v6,()),((),(),v7,(),()),((),(),v8,(),()),()),((v9++([r4]:List (List Int))),v10,())))
 else none
 else none
 else
 some (.inr (.inl ((((),()),((),()),((),()),()),((v3,v4,v5,v6,()),((),(),v7,(),()),((),(),v8,(),()),()),(v9,v10,()))))
def ybH (x:(ybp).X):=ypW x.1.2.2.2.1.1 x.1.2.2.2.2.1.1 x.1.2.2.2.2.2.1.1 x.2.1.1.1 x.2.1.1.2.1 x.2.1.1.2.2.1 x.2.1.1.2.2.2.1 x.2.1.2.1.2.2.1 x.2.1.2.2.1.2.2.1 x.2.2.1 x.2.2.2.1
def yx0 (x:(yfO).X):(ybp).X:=((((),()),((),()),((),()),(x.1.2.2.2.1.1,()),(x.1.2.2.2.2.1.1,()),(0,()),()),((x.2.1.1.1,x.2.1.1.2.1,x.2.1.1.2.2.1,x.2.1.1.2.2.2.1,()),((),(),x.2.1.2.1.2.2.1,(),()),((),(),x.2.1.2.2.1.2.2.1,(),()),()),(x.2.2.1,x.2.2.2.1,()))
def yzx:Code:=(zdD ycc 64 116).getD .skip
theorem yLY:zdD ycc 64 29=some (.block 0 (.loop yzx)):=by kernel_rfl
theorem yNG (x:(ybp).X):zg0 ⟨ygc,49,yAX⟩ 0 yzx 116 ybp yfE yjD x=ybH x:=by kernel_rfl
def yyd (x:(yfO).X):Nat:=18446744073709551616
def yq5 (x:(yfO).X):Option ((yfE).X ⊕ (yjD).X):=zz ybH (yyd x) (yx0 x)
def yyz:Seg:=⟨yfO,yfE,yjD,yq5⟩
def ysS:Nat→Option Seg:=fun q=>bif Nat.beq q 29 then some yyz else yAX q
theorem yMi:FrOk Tryz.prog ⟨ygc,49,ysS⟩ ycc:=(yMh).loop (sg:=yyz) ybp yx0 (by decide) yLY ybH yyd (by decide) (fun _=>rfl) (fun x r _ h=>h) yNG
def ybq:Shape:=⟨[(2,false,[.ptr 64 0]),(3,false,[.ptr 4480 0]),(30,false,[.br tW]),(31,false,[.int .i64]),(32,false,[.int .i64])],[(64,[.nil,.nil,.bool,.nil]),(4480,[.at 800000000,.at 800000002,.bool,.at 800000001])],[(800000000,tL,(.ow .fz)),(800000002,tW,(.pr .fz (.ow .fz))),(800000001,tI,.fz)]⟩
def yfP:Shape:=⟨[(2,false,[.ptr 64 0]),(3,false,[.ptr 4480 0]),(30,false,[.br tW]),(31,false,[.int .i64]),(32,false,[.ci .i64 0])],[(64,[.nil,.nil,.bool,.nil]),(4480,[.at 800000000,.at 800000002,.bool,.at 800000001])],[(800000000,tL,(.ow .fz)),(800000002,tW,(.pr .fz (.ow .fz))),(800000001,tI,.fz)]⟩
def yfF:Shape:=⟨[(2,false,[.ptr 64 0]),(3,false,[.ptr 4480 0])],[(64,[.nil,.nil,.bool,.nil]),(4480,[.at 800000000,.at 800000001,.bool,.at 800000002])],[(800000000,tL,(.ow .fz)),(800000001,tW,(.pr .fz (.ow .fz))),(800000002,tI,.fz)]⟩
def yjE:Shape:=⟨[],[],[]⟩
abbrev ypF (v0:List dW) (v1 v2:Int) (v3 v4:dM):(ybq).X:=((((),()),((),()),(v0,()),(v1,()),(v2,()),()),(((),(),v3.2.2.1,(),()),((),(),v4.2.2.1,(),()),()),(v4.1,v4.2.1,v4.2.2.2,()))
abbrev yKW (v0:List dW) (v1:Int) (v2 v3:dM):(yfP).X:=((((),()),((),()),(v0,()),(v1,()),((),()),()),(((),(),v2.2.2.1,(),()),((),(),v3.2.2.1,(),()),()),(v3.1,v3.2.1,v3.2.2.2,()))
abbrev yyq (v0 v1:dM):(yfF).X:=((((),()),((),()),()),(((),(),v0.2.2.1,(),()),((),(),v1.2.2.1,(),()),()),(v1.1,v1.2.1,v1.2.2.2,()))
def ypX (v0:List dW) (v1 v2:Int) (v3 v4:Bool) (v5:List (List Int)) (v6:List dW) (v7:List Int):Option ((ybq).X ⊕ ((yfF).X ⊕ (yjE).X)) :=
 bif (ltb v2 v1) then
 bif (inb v2 v0.length) then
 let r8:=yu ((nth v0 v2 (0,[])).2)
 bif (zjR v6.length ([((nth v0 v2 (0,[])).1,r8)]:List dW).length 32) then
 some (.inl ((((),()),((),()),(v0,()),(v1,()),((IntKind.i64.wrap (v2+1)),()),()),(((),(),v3,(),()),((),(),v4,(),()),()),(v5,(v6++([((nth v0 v2 (0,[])).1,r8)]:List dW)),v7,())))
 else none
 else none
 else
 some (.inr (.inl ((((),()),((),()),()),(((),(),v3,(),()),((),(),v4,(),()),()),(v5,v6,v7,()))))
def ybI (x:(ybq).X):=ypX x.1.2.2.1.1 x.1.2.2.2.1.1 x.1.2.2.2.2.1.1 x.2.1.1.2.2.1 x.2.1.2.1.2.2.1 x.2.2.1 x.2.2.2.1 x.2.2.2.2.1
def yx1 (x:(yfP).X):(ybq).X:=((((),()),((),()),(x.1.2.2.1.1,()),(x.1.2.2.2.1.1,()),(0,()),()),(((),(),x.2.1.1.2.2.1,(),()),((),(),x.2.1.2.1.2.2.1,(),()),()),(x.2.2.1,x.2.2.2.1,x.2.2.2.2.1,()))
def yzy:Code:=(zdD ycc 64 244).getD .skip
theorem yLZ:zdD ycc 64 61=some (.block 2 (.loop yzy)):=by kernel_rfl
theorem yNH (x:(ybq).X):zg0 ⟨ygc,49,ysS⟩ 2 yzy 244 ybq yfF yjE x=ybI x:=by kernel_rfl
def yye (x:(yfP).X):Nat:=18446744073709551616
def yq6 (x:(yfP).X):Option ((yfF).X ⊕ (yjE).X):=zz ybI (yye x) (yx1 x)
def yyA:Seg:=⟨yfP,yfF,yjE,yq6⟩
def yAY:Nat→Option Seg:=fun q=>bif Nat.beq q 61 then some yyA else ysS q
theorem yMj:FrOk Tryz.prog ⟨ygc,49,yAY⟩ ycc:=(yMi).loop (sg:=yyA) ybq yx1 (by decide) yLZ ybI yye (by decide) (fun _=>rfl) (fun x r _ h=>h) yNH
abbrev ygg:List Par:= [.rd tM]
abbrev yqg:List OT:= [⟨false,tM,(.pr (.ow (.ow .fz)) (.pr (.ow (.pr .fz (.ow .fz))) (.pr .fz (.ow .fz))))⟩]
def ylQ (a0:dM):Option (ResD yqg×MutD ygg) :=
 let r1:=yu a0.2.2.2
 zkh (yq5 ((((),()),((),()),((),()),(a0.1,()),((a0.1.length:Int),()),((),()),()),((a0.1,a0.2.1,a0.2.2.1,a0.2.2.2,()),((),(),false,(),()),((),(),a0.2.2.1,(),()),()),([],r1,()))) (fun y4 =>
 zkh (yq6 ((((),()),((),()),(y4.2.1.1.2.1,()),((y4.2.1.1.2.1.length:Int),()),((),()),()),(((),(),y4.2.1.2.1.2.2.1,(),()),((),(),y4.2.1.2.2.1.2.2.1,(),()),()),(y4.2.2.1,[],y4.2.2.2.1,()))) (fun y8 =>
 some (((y8.2.2.1,y8.2.2.2.1,y8.2.1.2.1.2.2.1,y8.2.2.2.2.1),()),())) (fun y8 =>
 none)) (fun y4 =>
 none)
theorem yVt (x:InD ygg):zjx ⟨ygc,49,yAY⟩ Tryz.f219.results.toList ycc ygg yqg x=ylQ x.1:=by kernel_rfl
theorem yQq:ConOk Tryz.prog 219 ⟨ygg,yqg,fun x=>ylQ x.1⟩:=zj1 (yMj) Tryz.func219 (by kernel_rfl) (by kernel_rfl) Tryz.ntmps219.symm (by decide) (fun x r h=>(yVt x).trans h)
def yaf (a0:dM):dM:=a0
theorem yTv (a0:dM) (hk:zi2 ygg (a0,())):ylQ a0=(fun n=>some ((n,()),())) (yaf a0):=by
 have hb1:a0.1.length * 24≤2 ^ 47:=hk.1.1.1
 have hb2:a0.2.1.length * 32≤2 ^ 47:=hk.1.2.1.1
 have h1:yq5 (yKV a0.1 a0.1.length a0 noMem ([],[],a0.2.2.1,a0.2.2.2))=some (.inl (yyp a0 noMem (a0.1,[],a0.2.2.1,a0.2.2.2))):=by
  have:=zj3 (step:=ybH) a0.1 [] (fun i s=>ypE a0.1 a0.1.length i a0 noMem (s,[],a0.2.2.1,a0.2.2.2)) (fun s x=>s++ [x]) (fun i s=>s.length=i) (fun s=> .inl (yyp a0 noMem (s,[],a0.2.2.1,a0.2.2.2))) (fun i s hi hs2=>⟨by
   simp only [ybH,ypE,ypW,zj4 (show (i:Int) < a0.1.length by omega),cond_true,wr (show -9223372036854775808≤(i:Int)+1 by omega) (by omega),Int.natCast_add,Int.natCast_one,Int.toNat_natCast,zkl hi,zkm,yu]
   rw [zka.2 (show (s.length+ [a0.1.getD i []].length) * 24≤140737488355328 by simp only [List.length_cons,List.length_nil]; omega)]; rfl,by simp [hs2]⟩) (fun s _=>by simp only [ybH,ypE,ypW,zkx (Int.le_refl _),cond_false]) [] rfl 18446744073709551616 (by omega)
  rw [yB2]at this
  exact this
 have h2:yq6 (yKW a0.2.1 a0.2.1.length noMem (a0.1,[],a0.2.2.1,a0.2.2.2))=some (.inl (yyq noMem a0)):=by
  have:=zj3 (step:=ybI) a0.2.1 (0,[]) (fun i s=>ypF a0.2.1 a0.2.1.length i noMem (a0.1,s,a0.2.2.1,a0.2.2.2)) (fun s x=>s++ [x]) (fun i s=>s.length=i) (fun s=> .inl (yyq noMem (a0.1,s,a0.2.2.1,a0.2.2.2))) (fun i s hi hs2=>⟨by
   simp only [ybI,ypF,ypX,zj4 (show (i:Int) < a0.2.1.length by omega),cond_true,wr (show -9223372036854775808≤(i:Int)+1 by omega) (by omega),Int.natCast_add,Int.natCast_one,Int.toNat_natCast,zkl hi,zkm,yu,zkr]
   rw [zka.2 (show (s.length+ [a0.2.1.getD i (0,[])].length) * 32≤140737488355328 by simp only [List.length_cons,List.length_nil]; omega)]; rfl,by simp [hs2]⟩) (fun s _=>by simp only [ybI,ypF,ypX,zkx (Int.le_refl _),cond_false]) [] rfl 18446744073709551616 (by omega)
  rw [yB2]at this
  exact this
 unfold ylQ yaf
 simp only [yu,h1,zki,h2]
def yhc:Con:=⟨ygg,yqg,fun x=>(fun n=>some ((n,()),())) (yaf x.1)⟩
theorem you:ConOk Tryz.prog 219 yhc:=(yQq).mono (fun x r hk h=>(yTv x.1 hk).trans h)
end
section
def yy5:Code:=(Tryz.f223.body).getD .skip
def yzq:Env:=zj2 TT [] []
theorem yGX:FrOk Tryz.prog ⟨yzq,7,fun _=>none⟩ yy5:=zj6 yc yd trivial
def yIA:Nat→Option Seg:=fun _=>none
abbrev yfx:List Par:= [.rd tI,.rp tI]
abbrev yjw:List OT:= [⟨false,tB,.fz⟩]
def yns (a0 a1:Int):Option (ResD yjw×MutD yfx) :=
 some (((a0==a1),()),())
theorem yL8 (x:InD yfx):zjx ⟨yzq,7,yIA⟩ Tryz.f223.results.toList yy5 yfx yjw x=yns x.1 x.2.1:=by kernel_rfl
theorem yI8:ConOk Tryz.prog 223 ⟨yfx,yjw,fun x=>yns x.1 x.2.1⟩:=zj1 (yGX) Tryz.func223 (by kernel_rfl) (by kernel_rfl) Tryz.ntmps223.symm (by decide) (fun x r h=>(yL8 x).trans h)
def ydf (a0 a1:Int):Bool :=
 (a0==a1)
def ynl:Con:=⟨yfx,yjw,fun x=>(fun n=>some ((n,()),())) (ydf x.1 x.2.1)⟩
theorem yK6 (a0 a1:Int):yns a0 a1=(fun n=>some ((n,()),())) (ydf a0 a1):=zkp (p:=fun (n:Bool)=>((n,()),())) rfl
theorem yyw:ConOk Tryz.prog 223 ynl:=(yI8).mono (fun x r _ h=>(yK6 x.1 x.2.1).trans h)
end
section
def ybS:Code:=(Tryz.f268.body).getD .skip
def yeg:Env:=zj2 TT [(223,ynl)] []
theorem yAH:FrOk Tryz.prog ⟨yeg,19,fun _=>none⟩ ybS:=zj6 yc yd ⟨yyw,trivial⟩
def yo3:Nat→Option Seg:=fun _=>none
def yJ:Shape:=⟨[(0,false,[.br tI]),(1,false,[.fx 223 tI]),(7,false,[.int .i64]),(8,false,[.int .i64])],[],[]⟩
def yaH:Shape:=⟨[(0,false,[.br tI]),(1,false,[.fx 223 tI]),(7,false,[.int .i64]),(8,false,[.ci .i64 0])],[],[]⟩
def yaF:Shape:=⟨[],[],[]⟩
def yaJ:Shape:=⟨[(4,false,[.int .i64])],[],[]⟩
abbrev yfo (v0:List Int) (v1 v2 v3:Int):(yJ).X:=(((v0,()),(v1,()),(v2,()),(v3,()),()),(),())
abbrev yyT (v0:List Int) (v1 v2:Int):(yaH).X:=(((v0,()),(v1,()),(v2,()),((),()),()),(),())
abbrev yyR  :(yaF).X:=((),(),())
abbrev ymO (v0:Int):(yaJ).X:=(((v0,()),()),(),())
def yfw (v0:List Int) (v1 v2 v3:Int):Option ((yJ).X ⊕ ((yaF).X ⊕ (yaJ).X)) :=
 bif (ltb v3 v2) then
 bif (inb v3 v0.length) then
 let r2:=ydf (nth v0 v3 0) v1
 bif r2 then
 some (.inr (.inr (((v3,()),()),(),())))
 else
 some (.inl (((v0,()),(v1,()),(v2,()),((IntKind.i64.wrap (v3+1)),()),()),(),()))
 else none
 else
 some (.inr (.inl ((),(),())))
def yR (x:(yJ).X):=yfw x.1.1.1 x.1.2.1.1 x.1.2.2.1.1 x.1.2.2.2.1.1
def ymJ (x:(yaH).X):(yJ).X:=(((x.1.1.1,()),(x.1.2.1.1,()),(x.1.2.2.1.1,()),(0,()),()),(),())
def yoi:Code:=(zdD ybS 64 52).getD .skip
theorem yAD:zdD ybS 64 13=some (.block 0 (.loop yoi)):=by kernel_rfl
theorem yAM (x:(yJ).X):zg0 ⟨yeg,19,yo3⟩ 0 yoi 52 yJ yaF yaJ x=yR x:=by kernel_rfl
def ymL (x:(yaH).X):Nat:=18446744073709551616
def yf6 (x:(yaH).X):Option ((yaF).X ⊕ (yaJ).X):=zz yR (ymL x) (ymJ x)
def yna:Seg:=⟨yaH,yaF,yaJ,yf6⟩
def yo4:Nat→Option Seg:=fun q=>bif Nat.beq q 13 then some yna else yo3 q
theorem yAI:FrOk Tryz.prog ⟨yeg,19,yo4⟩ ybS:=(yAH).loop (sg:=yna) yJ ymJ (by decide) yAD yR ymL (by decide) (fun _=>rfl) (fun x r _ h=>h) yAM
abbrev yau:List Par:= [.rd tL,.fn 223 tI]
abbrev yei:List OT:= [⟨false,tI,.fz⟩]
def yc9 (a0:List Int) (a1:Int):Option (ResD yei×MutD yau) :=
 zkh (yf6 (((a0,()),(a1,()),((a0.length:Int),()),((),()),()),(),())) (fun y2 =>
 some (((-1),()),())) (fun y2 =>
 some ((y2.1.1.1,()),()))
theorem yE4 (x:InD yau):zjx ⟨yeg,19,yo4⟩ Tryz.f268.results.toList ybS yau yei x=yc9 x.1 x.2.1:=by kernel_rfl
theorem yCt:ConOk Tryz.prog 268 ⟨yau,yei,fun x=>yc9 x.1 x.2.1⟩:=zj1 (yAI) Tryz.func268 (by kernel_rfl) (by kernel_rfl) Tryz.ntmps268.symm (by decide) (fun x r h=>(yE4 x).trans h)
def ybT (a0:List Int) (a1:Int):Int:=yW (fun e:Int=>e==a1) a0
theorem yC4 (a0:List Int) (a1:Int) (hk:zi2 yau (a0,a1,())):yc9 a0 a1=(fun n=>some ((n,()),())) (ybT a0 a1):=by
 have hb:a0.length * 8≤2 ^ 47:=hk.1.1
 have h1:yf6 (yyT a0 a1 a0.length)=some (bif leb 0 (yW (fun e:Int=>e==a1) a0) then .inr (ymO (yW (fun e:Int=>e==a1) a0)) else .inl yyR) :=
  yKL (step:=yR) a0 0 (fun i=>yfo a0 a1 a0.length i) (fun e:Int=>e==a1) (fun i=> .inr (ymO i)) _ (fun i hi=>by
   simp only [yR,yfo,yfw,zj4 (show (i:Int) < a0.length by omega),cond_true,wr (show -9223372036854775808≤(i:Int)+1 by omega) (by omega),Int.natCast_add,Int.natCast_one,Int.toNat_natCast,zkl hi,zkm,ydf]
   cases (a0.getD i 0==a1)<;>rfl) (by simp only [yR,yfo,yfw,zkx (Int.le_refl _),cond_false]) _ (by show _ < 18446744073709551616; omega)
 unfold yc9 ybT
 rw [h1]
 cases h:leb 0 (yW (fun e:Int=>e==a1) a0)
 ·rw [yLC h]; rfl
 ·rfl
def ypy:Con:=⟨yau,yei,fun x=>(fun n=>some ((n,()),())) (ybT x.1 x.2.1)⟩
theorem yC7:ConOk Tryz.prog 268 ypy:=(yCt).mono (fun x r hk h=>(yC4 x.1 x.2.1 hk).trans h)
end
section
def ybl:Code:=(Tryz.f222.body).getD .skip
def ydB:Env:=zj2 TT [(223,ynl),(268,ypy)] []
theorem yyM:FrOk Tryz.prog ⟨ydB,42,fun _=>none⟩ ybl:=zj6 yc yd ⟨yyw,yC7,trivial⟩
def ynC:Nat→Option Seg:=fun _=>none
def yG:Shape:=⟨[(0,false,[.at 800000000]),(1,false,[.fx 223 tI]),(5,false,[.int .i64]),(6,false,[.int .i64])],[],[(800000000,tI,.fz)]⟩
def yap:Shape:=⟨[(0,false,[.at 800000000]),(1,false,[.fx 223 tI]),(5,false,[.int .i64]),(6,false,[.int .i64])],[],[(800000000,tI,.fz)]⟩
def yao:Shape:=⟨[(0,false,[.at 800000000]),(5,false,[.int .i64])],[],[(800000000,tI,.fz)]⟩
def ybW:Shape:=⟨[],[],[]⟩
abbrev ybz (v0 v1 v2:Int) (v3:List Int):(yG).X:=((((),()),(v0,()),(v1,()),(v2,()),()),(),(v3,()))
abbrev yyv (v0 v1 v2:Int) (v3:List Int):(yap).X:=((((),()),(v0,()),(v1,()),(v2,()),()),(),(v3,()))
abbrev yyt (v0:Int) (v1:List Int):(yao).X:=((((),()),(v0,()),()),(),(v1,()))
def yeL (v0 v1 v2:Int) (v3:List Int):Option ((yG).X ⊕ ((yao).X ⊕ (ybW).X)) :=
 bif (ltb v2 (v3.length:Int)) then
 bif (inb v2 v3.length) then
 let r3:=ydf (nth v3 v2 0) v0
 bif (!r3) then
 bif (inb v1 v3.length) then
 some (.inl ((((),()),(v0,()),((IntKind.i64.wrap (v1+1)),()),((IntKind.i64.wrap (v2+1)),()),()),(),((v3.set (v1).toNat (nth v3 v2 0)),())))
 else none
 else
 some (.inl ((((),()),(v0,()),(v1,()),((IntKind.i64.wrap (v2+1)),()),()),(),(v3,())))
 else none
 else
 some (.inr (.inl ((((),()),(v1,()),()),(),(v3,()))))
def yL (x:(yG).X):=yeL x.1.2.1.1 x.1.2.2.1.1 x.1.2.2.2.1.1 x.2.2.1
def yli (x:(yap).X):(yG).X:=((((),()),(x.1.2.1.1,()),(x.1.2.2.1.1,()),(x.1.2.2.2.1.1,()),()),(),(x.2.2.1,()))
def ymH:Code:=(zdD ybl 64 244).getD .skip
theorem yyJ:zdD ybl 64 61=some (.block 0 (.loop ymH)):=by kernel_rfl
theorem yy0 (x:(yG).X):zg0 ⟨ydB,42,ynC⟩ 0 ymH 244 yG yao ybW x=yL x:=by kernel_rfl
def ylj (x:(yap).X):Nat:=18446744073709551616
def yfh (x:(yap).X):Option ((yao).X ⊕ (ybW).X):=zz yL (ylj x) (yli x)
def ylk:Seg:=⟨yap,yao,ybW,yfh⟩
def ynD:Nat→Option Seg:=fun q=>bif Nat.beq q 61 then some ylk else ynC q
theorem yyN:FrOk Tryz.prog ⟨ydB,42,ynD⟩ ybl:=(yyM).loop (sg:=ylk) yG yli (by decide) yyJ yL ylj (by decide) (fun _=>rfl) (fun x r _ h=>h) yy0
abbrev yaj:List Par:= [.kp tL (.ow .fz),.fn 223 tI]
abbrev ydC:List OT:= [⟨false,tL,(.ow .fz)⟩]
def ycH (a0:List Int) (a1:Int):Option (ResD ydC×MutD yaj) :=
 let r1:=ybT a0 a1
 bif (r1==(-1)) then
 some ((a0,()),())
 else
 zkh (yfh ((((),()),(a1,()),(r1,()),((IntKind.i64.wrap (r1+1)),()),()),(),(a0,()))) (fun y3 =>
 bif (zjw y3.1.2.1.1 (y3.2.2.1.length:Int) y3.2.2.1.length) then
 bif (zjw 0 y3.1.2.1.1 (y3.2.2.1.take (y3.1.2.1.1).toNat++(List.replicate ((y3.2.2.1.length:Int) - y3.1.2.1.1).toNat (0:Int))++y3.2.2.1.drop ((y3.1.2.1.1).toNat+(List.replicate ((y3.2.2.1.length:Int) - y3.1.2.1.1).toNat (0:Int)).length)).length) then
 some (((((y3.2.2.1.take (y3.1.2.1.1).toNat++(List.replicate ((y3.2.2.1.length:Int) - y3.1.2.1.1).toNat (0:Int))++y3.2.2.1.drop ((y3.1.2.1.1).toNat+(List.replicate ((y3.2.2.1.length:Int) - y3.1.2.1.1).toNat (0:Int)).length)).drop (0:Int).toNat).take (y3.1.2.1.1 - 0).toNat),()),())
 else none
 else none) (fun y3 =>
 none)
theorem yC2 (x:InD yaj):zjx ⟨ydB,42,ynD⟩ Tryz.f222.results.toList ybl yaj ydC x=ycH x.1 x.2.1:=by kernel_rfl
theorem yAK:ConOk Tryz.prog 222 ⟨yaj,ydC,fun x=>ycH x.1 x.2.1⟩:=zj1 (yyN) Tryz.func222 (by kernel_rfl) (by kernel_rfl) Tryz.ntmps222.symm (by decide) (fun x r h=>(yC2 x).trans h)
def ybm (a0:List Int) (a1:Int):List Int:=yXt a0 a1
theorem yCr (a0:List Int) (a1:Int) (hk:zi2 yaj (a0,a1,())):ycH a0 a1=(fun n=>some ((n,()),())) (ybm a0 a1):=by
 have hb:a0.length * 8≤2 ^ 47:=hk.1.1
 have hs:yXt a0 a1=a0.filter (fun x=> !(x==a1)):=rfl
 unfold ycH ybm ybT
 simp only []
 cases hi:leb 0 (yW (fun e:Int=>e==a1) a0)
 ·rw [yLC hi,hs,y14 hi]; rfl
 ·obtain ⟨h1,h2⟩:=ytc (d:=(0:Int)) hi
  have h3:=zjD.1 h1
  have h4:=yXH hi
  generalize hk0:yW (fun e:Int=>e==a1) a0=k at *
  obtain ⟨k,rfl⟩: ∃ m:Nat,k=m:=⟨k.toNat,by omega⟩
  rw [Int.toNat_natCast]at h4
  rw [show ((k:Int)== -1)=false from beq_eq_false_iff_ne.2 (by omega),cond_false,wr (show -9223372036854775808≤(k:Int)+1 by omega) (by omega)]
  obtain ⟨b,e,i,s,rfl,q1,q2,q3⟩:=ziP (step:=yL) (fun x=>(a0.length - Int.toNat x.1.2.2.2.1.1))
   (fun x=> ∃ (i j:Nat) (s:List Int),x=ybz a1 i j s∧i < j∧j≤a0.length∧s.length=a0.length∧s.take i=(a0.take j).filter (fun x=> !(x==a1))∧s.drop j=a0.drop j)
   (fun b=> ∃ (i:Nat) (s:List Int),b= .inl (yyt i s)∧i≤a0.length∧s.length=a0.length∧s.take i=a0.filter (fun x=> !(x==a1)))
   (fun x hx=>by
    obtain ⟨i,j,s,rfl,p1,p2,p3,p4,p5⟩:=hx
    by_cases hj:j < a0.length
    ·left
     have e1:nth s j 0=a0[j]:=by
      rw [zkm,zkd (by omega)]
      have:=List.getElem_drop (xs:=s) (i:=j) (j:=0) (h:=by rw [List.length_drop]; omega)
      have h6:(s.drop j)[0]'(by rw [List.length_drop]; omega)=(a0.drop j)[0]'(by rw [List.length_drop]; omega):=by simp only [p5]
      simpa using h6
     have e2:a0.take (j+1)=a0.take j++ [a0[j]]:=(List.take_append_getElem hj).symm
     simp only [yL,ybz,yeL,p3,zj4 (show (j:Int) < a0.length by omega),zkl hj,zkl (show i < a0.length by omega),e1,ydf,wr (show -9223372036854775808≤(j:Int)+1 by omega) (by omega),wr (show -9223372036854775808≤(i:Int)+1 by omega) (by omega),cond_true,Int.toNat_natCast]
     cases hx:(a0[j]==a1)
     ·refine ⟨_,rfl,⟨i+1,j+1,s.set i a0[j],rfl,by omega,by omega,by rw [List.length_set,p3],?_,?_⟩,by show a0.length - ((j:Int)+1).toNat < a0.length - ((j:Int)).toNat; omega⟩
      ·rw [List.take_set,← List.take_append_getElem (show i < s.length by omega),List.set_append_right _ _ (by rw [List.length_take]; omega),p4,e2,List.filter_append,List.filter_cons,hx]
       have:i - (List.filter (fun x=> !x==a1) (a0.take j)).length=0:=by rw [← p4,List.length_take]; omega
       rw [this]; rfl
      ·rw [List.drop_set_of_lt (by omega),← List.drop_drop,p5,List.drop_drop]
     ·refine ⟨_,rfl,⟨i,j+1,s,rfl,by omega,by omega,p3,?_,?_⟩,by show a0.length - ((j:Int)+1).toNat < a0.length - ((j:Int)).toNat; omega⟩
      ·rw [p4,e2,List.filter_append,List.filter_cons,hx]; simp
      ·rw [← List.drop_drop,p5,List.drop_drop]
    ·right
     have:j=a0.length:=by omega
     subst this
     rw [List.take_length]at p4
     refine ⟨_,?_,i,s,rfl,by omega,p3,p4⟩
     simp only [yL,ybz,yeL,p3,zkx (Int.le_refl _),cond_false]) 18446744073709551616 (ybz a1 k (k+1:Nat) a0) ⟨k,k+1,a0,rfl,by omega,by omega,rfl,h4.symm,rfl⟩ (by show a0.length - ((k+1:Nat):Int).toNat < 18446744073709551616; omega)
  rw [show ((k+1:Nat):Int)=(k:Int)+1 by omega]at e
  rw [show yfh (yyv a1 k ((k:Int)+1) a0)=_ from e]
  rw [hs,← q3]
  have hL:(s.take i++List.replicate ((s.length:Int) - i).toNat (0:Int)++s.drop ((i:Int).toNat+(List.replicate ((s.length:Int) - i).toNat (0:Int)).length)).length=s.length:=by
   simp only [List.length_append,List.length_take,List.length_replicate,List.length_drop]; omega
  show (bif zjw i s.length s.length then bif zjw 0 i (s.take i++List.replicate ((s.length:Int) - i).toNat (0:Int)++s.drop ((i:Int).toNat+(List.replicate ((s.length:Int) - i).toNat (0:Int)).length)).length then some ((((s.take i++List.replicate ((s.length:Int) - i).toNat (0:Int)++s.drop ((i:Int).toNat+(List.replicate ((s.length:Int) - i).toNat (0:Int)).length)).drop 0).take ((i:Int) - 0).toNat,()),()) else none else none)=some ((s.take i,()),())
  rw [hL,zj5.2 (show 0≤(i:Int)∧(i:Int)≤s.length∧(s.length:Int)≤s.length by omega),zj5.2 (show (0:Int)≤0∧(0:Int)≤i∧(i:Int)≤s.length by omega),List.drop_zero,show ((i:Int) - 0).toNat=i by omega,List.append_assoc,List.take_append_of_le_length (by rw [List.length_take]; omega),List.take_take,Nat.min_self]; rfl
def yol:Con:=⟨yaj,ydC,fun x=>(fun n=>some ((n,()),())) (ybm x.1 x.2.1)⟩
theorem yCv:ConOk Tryz.prog 222 yol:=(yAK).mono (fun x r hk h=>(yCr x.1 x.2.1 hk).trans h)
end
end
end Go.Tf
