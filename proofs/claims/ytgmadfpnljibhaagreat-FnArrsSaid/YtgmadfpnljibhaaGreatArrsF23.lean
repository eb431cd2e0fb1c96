/- Functions of the program, and what they come to. -/
import Derived.Test.YtgmadfpnljibhaaGreatArrsF22
namespace Go.Tf
noncomputable section
open Go.Proofs
set_option synthInstance.maxHeartbeats 400000
set_option synthInstance.maxSize 10000
set_option linter.unusedVariables false
set_option linter.unusedSimpArgs false
set_option maxRecDepth 100000
section
def yhZ:Code:=(Tryz.f143.body).getD .skip
def ynG:Env:=zj2 TT [(219,yhc)] []
theorem yKq:FrOk Tryz.prog ⟨ynG,20,fun _=>none⟩ yhZ:=zj6 yc yd ⟨you,trivial⟩
def yzg:Nat→Option Seg:=fun _=>none
def ya1:Shape:=⟨[(3,false,[.at 800000000]),(7,false,[.br tM]),(8,false,[.int .i64]),(9,false,[.int .i64])],[],[(800000000,tM,(.pr (.ow (.ow .fz)) (.pr (.ow (.pr .fz (.ow .fz))) (.pr .fz (.ow .fz)))))]⟩
def yey:Shape:=⟨[(3,false,[.at 800000000]),(7,false,[.br tM]),(8,false,[.int .i64]),(9,false,[.ci .i64 0])],[],[(800000000,tM,(.pr (.ow (.ow .fz)) (.pr (.ow (.pr .fz (.ow .fz))) (.pr .fz (.ow .fz)))))]⟩
def yer:Shape:=⟨[(3,false,[.at 800000000])],[],[(800000000,tM,(.pr (.ow (.ow .fz)) (.pr (.ow (.pr .fz (.ow .fz))) (.pr .fz (.ow .fz)))))]⟩
def yiT:Shape:=⟨[],[],[]⟩
abbrev ynp (v0:List dM) (v1 v2:Int) (v3:List dM):(ya1).X:=((((),()),(v0,()),(v1,()),(v2,()),()),(),(v3,()))
abbrev yI0 (v0:List dM) (v1:Int) (v2:List dM):(yey).X:=((((),()),(v0,()),(v1,()),((),()),()),(),(v2,()))
abbrev yIV (v0:List dM):(yer).X:=((((),()),()),(),(v0,()))
def yny (v0:List dM) (v1 v2:Int) (v3:List dM):Option ((ya1).X ⊕ ((yer).X ⊕ (yiT).X)) :=
 bif (ltb v2 v1) then
 bif (inb v2 v0.length) then
 let r2:=yaf ((nth v0 v2 ([],[],false,[])).1,((nth v0 v2 ([],[],false,[])).2).1,(((nth v0 v2 ([],[],false,[])).2).2))
 bif (zjR v3.length ([r2]:List dM).length 80) then
 some (.inl ((((),()),(v0,()),(v1,()),((IntKind.i64.wrap (v2+1)),()),()),(),((v3++([r2]:List dM)),())))
 else none
 else none
 else
 some (.inr (.inl ((((),()),()),(),(v3,()))))
def ybh (x:(ya1).X):=yny x.1.2.1.1 x.1.2.2.1.1 x.1.2.2.2.1.1 x.2.2.1
def ywm (x:(yey).X):(ya1).X:=((((),()),(x.1.2.1.1,()),(x.1.2.2.1.1,()),(0,()),()),(),(x.2.2.1,()))
def yxN:Code:=(zdD yhZ 64 116).getD .skip
theorem yJZ:zdD yhZ 64 29=some (.block 0 (.loop yxN)):=by kernel_rfl
theorem yLp (x:(ya1).X):zg0 ⟨ynG,20,yzg⟩ 0 yxN 116 ya1 yer yiT x=ybh x:=by kernel_rfl
def ywu (x:(yey).X):Nat:=18446744073709551616
def yo8 (x:(yey).X):Option ((yer).X ⊕ (yiT).X):=zz ybh (ywu x) (ywm x)
def ywH:Seg:=⟨yey,yer,yiT,yo8⟩
def yzh:Nat→Option Seg:=fun q=>bif Nat.beq q 29 then some ywH else yzg q
theorem yKr:FrOk Tryz.prog ⟨ynG,20,yzh⟩ yhZ:=(yKq).loop (sg:=ywH) ya1 ywm (by decide) yJZ ybh ywu (by decide) (fun _=>rfl) (fun x r _ h=>h) yLp
abbrev yeX:List Par:= [.rd tMs]
abbrev ynX:List OT:= [⟨false,tMs,(.ow (.pr (.ow (.ow .fz)) (.pr (.ow (.pr .fz (.ow .fz))) (.pr .fz (.ow .fz)))))⟩]
def yjZ (a0:List dM):Option (ResD ynX×MutD yeX) :=
 zkh (yo8 ((((),()),(a0,()),((a0.length:Int),()),((),()),()),(),(([]:List dM),()))) (fun y2 =>
 some ((y2.2.2.1,()),())) (fun y2 =>
 none)
theorem ySc (x:InD yeX):zjx ⟨ynG,20,yzh⟩ Tryz.f143.results.toList yhZ yeX ynX x=yjZ x.1:=by kernel_rfl
theorem yNl:ConOk Tryz.prog 143 ⟨yeX,ynX,fun x=>yjZ x.1⟩:=zj1 (yKr) Tryz.func143 (by kernel_rfl) (by kernel_rfl) Tryz.ntmps143.symm (by decide) (fun x r h=>(ySc x).trans h)
def yjc (a0:List dM):List dM:=a0
theorem yQa (a0:List dM) (hk:zi2 yeX (a0,())):yjZ a0=(fun n=>some ((n,()),())) (yjc a0):=by
 have hb:a0.length * 80≤2 ^ 47:=hk.1.1
 have h1:=zj3 (step:=ybh) a0 noMem (fun i s=>ynp a0 a0.length i s) (fun s x=>s++ [x]) (fun i s=>s.length=i) (fun s=> .inl (yIV s)) (fun i s hi hs=>⟨by
   simp only [ybh,ynp,yny,zj4 (show (i:Int) < a0.length by omega),cond_true,wr (show -9223372036854775808≤(i:Int)+1 by omega) (by omega),Int.natCast_add,Int.natCast_one,Int.toNat_natCast,zkl hi,zkm,yaf,zkr]
   rw [zka.2 (show (s.length+ [a0.getD i ([],[],false,[])].length) * 80≤140737488355328 by simp only [List.length_cons,List.length_nil]; omega)]; rfl,by simp [hs]⟩) (fun s hs=>by simp only [ybh,ynp,yny,zkx (Int.le_refl _),cond_false]) [] rfl 18446744073709551616 (by omega)
 rw [yB2]at h1
 unfold yjZ yjc
 rw [show yo8 (yI0 a0 a0.length [])=_ from h1]; rfl
def yzP:Con:=⟨yeX,ynX,fun x=>(fun n=>some ((n,()),())) (yjc x.1)⟩
theorem yQU:ConOk Tryz.prog 143 yzP:=(yNl).mono (fun x r hk h=>(yQa x.1 hk).trans h)
end
section
def yby:Code:=(Tryz.f50.body).getD .skip
def yeN:Env:=zj2 TT [(45,ygm),(142,yzQ),(143,yzP)] []
theorem yKc:FrOk Tryz.prog ⟨yeN,109,fun _=>none⟩ yby:=zj6 yc yd ⟨ym1,yQV,yQU,trivial⟩
def yza:Nat→Option Seg:=fun _=>none
def yaY:Shape:=⟨[(0,false,[.br tM]),(1,false,[.int .i64]),(4,false,[.ptr 0 0]),(6,false,[.ptr 4160 0]),(7,false,[.bool]),(18,false,[.br tM]),(19,false,[.int .i64]),(20,false,[.int .i64])],[(0,[.int .i64,.int .i64,.int .i64,.nil,.int .i64,.int .i64,.int .i64,.int .i64,.int .i64,.nil,.int .i64,.bool,.bool]),(4160,[.int .i64,.int .i64,.int .i64,.int .i64,.int .i64,.int .i64,.int .i64,.int .i64])],[]⟩
def yev:Shape:=⟨[(0,false,[.br tM]),(1,false,[.int .i64]),(4,false,[.ptr 0 0]),(6,false,[.ptr 4160 0]),(7,false,[.cb false]),(18,false,[.br tM]),(19,false,[.int .i64]),(20,false,[.ci .i64 0])],[(0,[.int .i64,.int .i64,.int .i64,.nil,.int .i64,.int .i64,.int .i64,.int .i64,.int .i64,.nil,.int .i64,.bool,.bool]),(4160,[.int .i64,.int .i64,.int .i64,.int .i64,.int .i64,.int .i64,.int .i64,.int .i64])],[]⟩
def yeo:Shape:=⟨[(0,false,[.br tM]),(1,false,[.int .i64]),(4,false,[.ptr 0 0]),(6,false,[.ptr 4160 0]),(7,false,[.bool])],[(0,[.int .i64,.int .i64,.int .i64,.nil,.int .i64,.int .i64,.int .i64,.int .i64,.int .i64,.nil,.int .i64,.bool,.bool]),(4160,[.int .i64,.int .i64,.int .i64,.int .i64,.int .i64,.int .i64,.int .i64,.int .i64])],[]⟩
def yiN:Shape:=⟨[],[],[]⟩
abbrev ynm (v0:List dM) (v1:Int) (v2:Bool) (v3:List dM) (v4 v5:Int) (v6:dA) (v7:dS):(yaY).X:=(((v0,()),(v1,()),((),()),((),()),(v2,()),(v3,()),(v4,()),(v5,()),()),((v6.1,v6.2.1.1,v6.2.1.2,(),v6.2.2.2.1,v6.2.2.2.2.1,v6.2.2.2.2.2.1,v6.2.2.2.2.2.2.1,v6.2.2.2.2.2.2.2.1,(),v6.2.2.2.2.2.2.2.2.2.1,v6.2.2.2.2.2.2.2.2.2.2.1,v6.2.2.2.2.2.2.2.2.2.2.2,()),(v7.1,v7.2.1,v7.2.2.1,v7.2.2.2.1,v7.2.2.2.2.1,v7.2.2.2.2.2.1,v7.2.2.2.2.2.2.1,v7.2.2.2.2.2.2.2,()),()),())
abbrev yIX (v0:List dM) (v1:Int) (v2:List dM) (v3:Int) (v4:dA) (v5:dS):(yev).X:=(((v0,()),(v1,()),((),()),((),()),((),()),(v2,()),(v3,()),((),()),()),((v4.1,v4.2.1.1,v4.2.1.2,(),v4.2.2.2.1,v4.2.2.2.2.1,v4.2.2.2.2.2.1,v4.2.2.2.2.2.2.1,v4.2.2.2.2.2.2.2.1,(),v4.2.2.2.2.2.2.2.2.2.1,v4.2.2.2.2.2.2.2.2.2.2.1,v4.2.2.2.2.2.2.2.2.2.2.2,()),(v5.1,v5.2.1,v5.2.2.1,v5.2.2.2.1,v5.2.2.2.2.1,v5.2.2.2.2.2.1,v5.2.2.2.2.2.2.1,v5.2.2.2.2.2.2.2,()),()),())
abbrev ywz (v0:List dM) (v1:Int) (v2:Bool) (v3:dA) (v4:dS):(yeo).X:=(((v0,()),(v1,()),((),()),((),()),(v2,()),()),((v3.1,v3.2.1.1,v3.2.1.2,(),v3.2.2.2.1,v3.2.2.2.2.1,v3.2.2.2.2.2.1,v3.2.2.2.2.2.2.1,v3.2.2.2.2.2.2.2.1,(),v3.2.2.2.2.2.2.2.2.2.1,v3.2.2.2.2.2.2.2.2.2.2.1,v3.2.2.2.2.2.2.2.2.2.2.2,()),(v4.1,v4.2.1,v4.2.2.1,v4.2.2.2.1,v4.2.2.2.2.1,v4.2.2.2.2.2.1,v4.2.2.2.2.2.2.1,v4.2.2.2.2.2.2.2,()),()),())
def ynv (v0:List dM) (v1:Int) (v2:Bool) (v3:List dM) (v4 v5 v6 v7 v8 v9 v10 v11 v12 v13 v14:Int) (v15 v16:Bool) (v17 v18 v19 v20 v21 v22 v23 v24:Int):Option ((yaY).X ⊕ ((yeo).X ⊕ (yiN).X)) :=
 bif (ltb v5 v4) then
 bif (inb v5 v3.length) then
 let r2:=yc4 ((nth v3 v5 ([],[],false,[])).1,((nth v3 v5 ([],[],false,[])).2).1,(((nth v3 v5 ([],[],false,[])).2).2)) v5 v1
 bif r2.2 then
 bif (!(!v2)) then
 bif (ltb v18 r2.1.2.1) then
 some (.inl (((v0,()),(v1,()),((),()),((),()),(true,()),(v3,()),(v4,()),((IntKind.i64.wrap (v5+1)),()),()),((v6,v7,v8,(),v9,v10,v11,v12,v13,(),v14,v15,v16,()),(r2.1.1,r2.1.2.1,r2.1.2.2.1,r2.1.2.2.2.1,r2.1.2.2.2.2.1,r2.1.2.2.2.2.2.1,r2.1.2.2.2.2.2.2.1,r2.1.2.2.2.2.2.2.2,()),()),()))
 else
 some (.inl (((v0,()),(v1,()),((),()),((),()),(v2,()),(v3,()),(v4,()),((IntKind.i64.wrap (v5+1)),()),()),((v6,v7,v8,(),v9,v10,v11,v12,v13,(),v14,v15,v16,()),(v17,v18,v19,v20,v21,v22,v23,v24,()),()),()))
 else
 some (.inl (((v0,()),(v1,()),((),()),((),()),(true,()),(v3,()),(v4,()),((IntKind.i64.wrap (v5+1)),()),()),((v6,v7,v8,(),v9,v10,v11,v12,v13,(),v14,v15,v16,()),(r2.1.1,r2.1.2.1,r2.1.2.2.1,r2.1.2.2.2.1,r2.1.2.2.2.2.1,r2.1.2.2.2.2.2.1,r2.1.2.2.2.2.2.2.1,r2.1.2.2.2.2.2.2.2,()),()),()))
 else
 some (.inl (((v0,()),(v1,()),((),()),((),()),(v2,()),(v3,()),(v4,()),((IntKind.i64.wrap (v5+1)),()),()),((v6,v7,v8,(),v9,v10,v11,v12,v13,(),v14,v15,v16,()),(v17,v18,v19,v20,v21,v22,v23,v24,()),()),()))
 else none
 else
 some (.inr (.inl (((v0,()),(v1,()),((),()),((),()),(v2,()),()),((v6,v7,v8,(),v9,v10,v11,v12,v13,(),v14,v15,v16,()),(v17,v18,v19,v20,v21,v22,v23,v24,()),()),())))
def ybe (x:(yaY).X):=ynv x.1.1.1 x.1.2.1.1 x.1.2.2.2.2.1.1 x.1.2.2.2.2.2.1.1 x.1.2.2.2.2.2.2.1.1 x.1.2.2.2.2.2.2.2.1.1 x.2.1.1.1 x.2.1.1.2.1 x.2.1.1.2.2.1 x.2.1.1.2.2.2.2.1 x.2.1.1.2.2.2.2.2.1 x.2.1.1.2.2.2.2.2.2.1 x.2.1.1.2.2.2.2.2.2.2.1 x.2.1.1.2.2.2.2.2.2.2.2.1 x.2.1.1.2.2.2.2.2.2.2.2.2.2.1 x.2.1.1.2.2.2.2.2.2.2.2.2.2.2.1 x.2.1.1.2.2.2.2.2.2.2.2.2.2.2.2.1 x.2.1.2.1.1 x.2.1.2.1.2.1 x.2.1.2.1.2.2.1 x.2.1.2.1.2.2.2.1 x.2.1.2.1.2.2.2.2.1 x.2.1.2.1.2.2.2.2.2.1 x.2.1.2.1.2.2.2.2.2.2.1 x.2.1.2.1.2.2.2.2.2.2.2.1
def ywj (x:(yev).X):(yaY).X:=(((x.1.1.1,()),(x.1.2.1.1,()),((),()),((),()),(false,()),(x.1.2.2.2.2.2.1.1,()),(x.1.2.2.2.2.2.2.1.1,()),(0,()),()),((x.2.1.1.1,x.2.1.1.2.1,x.2.1.1.2.2.1,(),x.2.1.1.2.2.2.2.1,x.2.1.1.2.2.2.2.2.1,x.2.1.1.2.2.2.2.2.2.1,x.2.1.1.2.2.2.2.2.2.2.1,x.2.1.1.2.2.2.2.2.2.2.2.1,(),x.2.1.1.2.2.2.2.2.2.2.2.2.2.1,x.2.1.1.2.2.2.2.2.2.2.2.2.2.2.1,x.2.1.1.2.2.2.2.2.2.2.2.2.2.2.2.1,()),(x.2.1.2.1.1,x.2.1.2.1.2.1,x.2.1.2.1.2.2.1,x.2.1.2.1.2.2.2.1,x.2.1.2.1.2.2.2.2.1,x.2.1.2.1.2.2.2.2.2.1,x.2.1.2.1.2.2.2.2.2.2.1,x.2.1.2.1.2.2.2.2.2.2.2.1,()),()),())
def yxK:Code:=(zdD yby 64 116).getD .skip
theorem yJW:zdD yby 64 29=some (.block 0 (.loop yxK)):=by kernel_rfl
theorem yLm (x:(yaY).X):zg0 ⟨yeN,109,yza⟩ 0 yxK 116 yaY yeo yiN x=ybe x:=by kernel_rfl
def ywr (x:(yev).X):Nat:=18446744073709551616
def yo5 (x:(yev).X):Option ((yeo).X ⊕ (yiN).X):=zz ybe (ywr x) (ywj x)
def ywE:Seg:=⟨yev,yeo,yiN,yo5⟩
def yq2:Nat→Option Seg:=fun q=>bif Nat.beq q 29 then some ywE else yza q
theorem yKd:FrOk Tryz.prog ⟨yeN,109,yq2⟩ yby:=(yKc).loop (sg:=ywE) yaY ywj (by decide) yJW ybe ywr (by decide) (fun _=>rfl) (fun x r _ h=>h) yLm
def yax:Shape:=⟨[(1,false,[.int .i64]),(4,false,[.ptr 0 0]),(12,false,[.ptr 46272 0]),(75,false,[.br tM]),(76,false,[.int .i64]),(77,false,[.int .i64])],[(0,[.int .i64,.int .i64,.int .i64,.nil,.int .i64,.int .i64,.int .i64,.int .i64,.int .i64,.nil,.int .i64,.bool,.bool]),(46272,[.int .i64,.int .i64,.int .i64,.at 800000000,.int .i64,.int .i64,.int .i64,.int .i64,.int .i64,.nil,.int .i64,.bool,.bool])],[(800000000,tM,(.pr (.ow (.ow .fz)) (.pr (.ow (.pr .fz (.ow .fz))) (.pr .fz (.ow .fz)))))]⟩
def ydM:Shape:=⟨[(1,false,[.int .i64]),(4,false,[.ptr 0 0]),(12,false,[.ptr 46272 0]),(75,false,[.br tM]),(76,false,[.int .i64]),(77,false,[.ci .i64 0])],[(0,[.int .i64,.int .i64,.int .i64,.nil,.int .i64,.int .i64,.int .i64,.int .i64,.int .i64,.nil,.int .i64,.bool,.bool]),(46272,[.int .i64,.int .i64,.int .i64,.at 800000000,.int .i64,.int .i64,.int .i64,.int .i64,.int .i64,.nil,.int .i64,.bool,.bool])],[(800000000,tM,(.pr (.ow (.ow .fz)) (.pr (.ow (.pr .fz (.ow .fz))) (.pr .fz (.ow .fz)))))]⟩
def ydF:Shape:=⟨[(4,false,[.ptr 0 0]),(12,false,[.ptr 46272 0])],[(0,[.int .i64,.int .i64,.int .i64,.nil,.int .i64,.int .i64,.int .i64,.int .i64,.int .i64,.nil,.int .i64,.bool,.bool]),(46272,[.int .i64,.int .i64,.int .i64,.at 800000000,.int .i64,.int .i64,.int .i64,.int .i64,.int .i64,.nil,.int .i64,.bool,.bool])],[(800000000,tM,(.pr (.ow (.ow .fz)) (.pr (.ow (.pr .fz (.ow .fz))) (.pr .fz (.ow .fz)))))]⟩
def yhs:Shape:=⟨[],[],[]⟩
abbrev ylH (v0:Int) (v1:List dM) (v2 v3:Int) (v4 v5:dA):(yax).X:=(((v0,()),((),()),((),()),(v1,()),(v2,()),(v3,()),()),((v4.1,v4.2.1.1,v4.2.1.2,(),v4.2.2.2.1,v4.2.2.2.2.1,v4.2.2.2.2.2.1,v4.2.2.2.2.2.2.1,v4.2.2.2.2.2.2.2.1,(),v4.2.2.2.2.2.2.2.2.2.1,v4.2.2.2.2.2.2.2.2.2.2.1,v4.2.2.2.2.2.2.2.2.2.2.2,()),(v5.1,v5.2.1.1,v5.2.1.2,(),v5.2.2.2.1,v5.2.2.2.2.1,v5.2.2.2.2.2.1,v5.2.2.2.2.2.2.1,v5.2.2.2.2.2.2.2.1,(),v5.2.2.2.2.2.2.2.2.2.1,v5.2.2.2.2.2.2.2.2.2.2.1,v5.2.2.2.2.2.2.2.2.2.2.2,()),()),(v5.2.2.1,()))
abbrev yG9 (v0:Int) (v1:List dM) (v2:Int) (v3 v4:dA):(ydM).X:=(((v0,()),((),()),((),()),(v1,()),(v2,()),((),()),()),((v3.1,v3.2.1.1,v3.2.1.2,(),v3.2.2.2.1,v3.2.2.2.2.1,v3.2.2.2.2.2.1,v3.2.2.2.2.2.2.1,v3.2.2.2.2.2.2.2.1,(),v3.2.2.2.2.2.2.2.2.2.1,v3.2.2.2.2.2.2.2.2.2.2.1,v3.2.2.2.2.2.2.2.2.2.2.2,()),(v4.1,v4.2.1.1,v4.2.1.2,(),v4.2.2.2.1,v4.2.2.2.2.1,v4.2.2.2.2.2.1,v4.2.2.2.2.2.2.1,v4.2.2.2.2.2.2.2.1,(),v4.2.2.2.2.2.2.2.2.2.1,v4.2.2.2.2.2.2.2.2.2.2.1,v4.2.2.2.2.2.2.2.2.2.2.2,()),()),(v4.2.2.1,()))
abbrev yvw (v0 v1:dA):(ydF).X:=((((),()),((),()),()),((v0.1,v0.2.1.1,v0.2.1.2,(),v0.2.2.2.1,v0.2.2.2.2.1,v0.2.2.2.2.2.1,v0.2.2.2.2.2.2.1,v0.2.2.2.2.2.2.2.1,(),v0.2.2.2.2.2.2.2.2.2.1,v0.2.2.2.2.2.2.2.2.2.2.1,v0.2.2.2.2.2.2.2.2.2.2.2,()),(v1.1,v1.2.1.1,v1.2.1.2,(),v1.2.2.2.1,v1.2.2.2.2.1,v1.2.2.2.2.2.1,v1.2.2.2.2.2.2.1,v1.2.2.2.2.2.2.2.1,(),v1.2.2.2.2.2.2.2.2.2.1,v1.2.2.2.2.2.2.2.2.2.2.1,v1.2.2.2.2.2.2.2.2.2.2.2,()),()),(v1.2.2.1,()))
def yl4 (v0:Int) (v1:List dM) (v2 v3 v4 v5 v6 v7 v8 v9 v10 v11 v12:Int) (v13 v14:Bool) (v15 v16 v17 v18 v19 v20 v21 v22 v23:Int) (v24 v25:Bool) (v26:List dM):Option ((yax).X ⊕ ((ydF).X ⊕ (yhs).X)) :=
 bif (ltb v3 v2) then
 bif (inb v3 v1.length) then
 let r6:=yc4 ((nth v1 v3 ([],[],false,[])).1,((nth v1 v3 ([],[],false,[])).2).1,(((nth v1 v3 ([],[],false,[])).2).2)) v3 v0
 bif r6.2 then
 some (.inl (((v0,()),((),()),((),()),(v1,()),(v2,()),((IntKind.i64.wrap (v3+1)),()),()),((v4,v5,v6,(),v7,v8,v9,v10,v11,(),v12,v13,v14,()),(v15,v16,v17,(),v18,v19,v20,v21,v22,(),v23,v24,v25,()),()),(v26,())))
 else
 bif (!(v18==(-1))) then
 bif (v18==v3) then
 some (.inl (((v0,()),((),()),((),()),(v1,()),(v2,()),((IntKind.i64.wrap (v3+1)),()),()),((v4,v5,v6,(),v7,v8,v9,v10,v11,(),v12,v13,v14,()),(v15,v16,v17,(),v3,0,v20,v21,v22,(),v23,v24,v25,()),()),(v26,())))
 else
 some (.inl (((v0,()),((),()),((),()),(v1,()),(v2,()),((IntKind.i64.wrap (v3+1)),()),()),((v4,v5,v6,(),v7,v8,v9,v10,v11,(),v12,v13,v14,()),(v15,v16,v17,(),v18,v19,v20,v21,v22,(),v23,v24,true,()),()),(v26,())))
 else
 some (.inl (((v0,()),((),()),((),()),(v1,()),(v2,()),((IntKind.i64.wrap (v3+1)),()),()),((v4,v5,v6,(),v7,v8,v9,v10,v11,(),v12,v13,v14,()),(v15,v16,v17,(),v3,0,v20,v21,v22,(),v23,v24,v25,()),()),(v26,())))
 else none
 else
 some (.inr (.inl ((((),()),((),()),()),((v4,v5,v6,(),v7,v8,v9,v10,v11,(),v12,v13,v14,()),(v15,v16,v17,(),v18,v19,v20,v21,v22,(),v23,v24,v25,()),()),(v26,()))))
def yaQ (x:(yax).X):=yl4 x.1.1.1 x.1.2.2.2.1.1 x.1.2.2.2.2.1.1 x.1.2.2.2.2.2.1.1 x.2.1.1.1 x.2.1.1.2.1 x.2.1.1.2.2.1 x.2.1.1.2.2.2.2.1 x.2.1.1.2.2.2.2.2.1 x.2.1.1.2.2.2.2.2.2.1 x.2.1.1.2.2.2.2.2.2.2.1 x.2.1.1.2.2.2.2.2.2.2.2.1 x.2.1.1.2.2.2.2.2.2.2.2.2.2.1 x.2.1.1.2.2.2.2.2.2.2.2.2.2.2.1 x.2.1.1.2.2.2.2.2.2.2.2.2.2.2.2.1 x.2.1.2.1.1 x.2.1.2.1.2.1 x.2.1.2.1.2.2.1 x.2.1.2.1.2.2.2.2.1 x.2.1.2.1.2.2.2.2.2.1 x.2.1.2.1.2.2.2.2.2.2.1 x.2.1.2.1.2.2.2.2.2.2.2.1 x.2.1.2.1.2.2.2.2.2.2.2.2.1 x.2.1.2.1.2.2.2.2.2.2.2.2.2.2.1 x.2.1.2.1.2.2.2.2.2.2.2.2.2.2.2.1 x.2.1.2.1.2.2.2.2.2.2.2.2.2.2.2.2.1 x.2.2.1
def yvb (x:(ydM).X):(yax).X:=(((x.1.1.1,()),((),()),((),()),(x.1.2.2.2.1.1,()),(x.1.2.2.2.2.1.1,()),(0,()),()),((x.2.1.1.1,x.2.1.1.2.1,x.2.1.1.2.2.1,(),x.2.1.1.2.2.2.2.1,x.2.1.1.2.2.2.2.2.1,x.2.1.1.2.2.2.2.2.2.1,x.2.1.1.2.2.2.2.2.2.2.1,x.2.1.1.2.2.2.2.2.2.2.2.1,(),x.2.1.1.2.2.2.2.2.2.2.2.2.2.1,x.2.1.1.2.2.2.2.2.2.2.2.2.2.2.1,x.2.1.1.2.2.2.2.2.2.2.2.2.2.2.2.1,()),(x.2.1.2.1.1,x.2.1.2.1.2.1,x.2.1.2.1.2.2.1,(),x.2.1.2.1.2.2.2.2.1,x.2.1.2.1.2.2.2.2.2.1,x.2.1.2.1.2.2.2.2.2.2.1,x.2.1.2.1.2.2.2.2.2.2.2.1,x.2.1.2.1.2.2.2.2.2.2.2.2.1,(),x.2.1.2.1.2.2.2.2.2.2.2.2.2.2.1,x.2.1.2.1.2.2.2.2.2.2.2.2.2.2.2.1,x.2.1.2.1.2.2.2.2.2.2.2.2.2.2.2.2.1,()),()),(x.2.2.1,()))
def yv9:Code:=(zdD yby 64 1012).getD .skip
theorem yIG:zdD yby 64 253=some (.block 2 (.loop yv9)):=by kernel_rfl
theorem yJh (x:(yax).X):zg0 ⟨yeN,109,yq2⟩ 2 yv9 1012 yax ydF yhs x=yaQ x:=by kernel_rfl
def yvi (x:(ydM).X):Nat:=18446744073709551616
def ynf (x:(ydM).X):Option ((ydF).X ⊕ (yhs).X):=zz yaQ (yvi x) (yvb x)
def yvX:Seg:=⟨ydM,ydF,yhs,ynf⟩
def yzb:Nat→Option Seg:=fun q=>bif Nat.beq q 253 then some yvX else yq2 q
theorem yKe:FrOk Tryz.prog ⟨yeN,109,yzb⟩ yby:=(yKd).loop (sg:=yvX) yax yvb (by decide) yIG yaQ yvi (by decide) (fun _=>rfl) (fun x r _ h=>h) yJh
abbrev yeO:List Par:= [.rd tMs,.rd tI]
abbrev ynN:List OT:= [⟨false,tA,(.pr .fz (.pr (.pr .fz .fz) (.pr (.ow (.pr (.ow (.ow .fz)) (.pr (.ow (.pr .fz (.ow .fz))) (.pr .fz (.ow .fz))))) (.pr .fz (.pr .fz (.pr .fz (.pr .fz (.pr .fz (.pr (.ow (.pr .fz (.ow .fz))) (.pr .fz (.pr .fz .fz)))))))))))⟩,⟨false,tB,.fz⟩]
def yjQ (a0:List dM) (a1:Int):Option (ResD ynN×MutD yeO) :=
 zkh (yo5 (((a0,()),(a1,()),((),()),((),()),((),()),(a0,()),((a0.length:Int),()),((),()),()),((0,0,0,(),0,0,0,0,0,(),0,false,false,()),(0,0,0,0,0,0,0,0,()),()),())) (fun y2 =>
 bif (!(!y2.1.2.2.2.2.1.1)) then
 bif ((y2.1.1.1.length:Int) !=y2.2.1.2.1.2.2.2.1) then
 some (((0,(0,0),[],0,0,0,0,0,[],0,false,false),false,()),())
 else
 let r4:=yjc y2.1.1.1
 zkh (ynf (((y2.1.2.1.1,()),((),()),((),()),(y2.1.1.1,()),((y2.1.1.1.length:Int),()),((),()),()),((y2.2.1.1.1,y2.2.1.1.2.1,y2.2.1.1.2.2.1,(),y2.2.1.1.2.2.2.2.1,y2.2.1.1.2.2.2.2.2.1,y2.2.1.1.2.2.2.2.2.2.1,y2.2.1.1.2.2.2.2.2.2.2.1,y2.2.1.1.2.2.2.2.2.2.2.2.1,(),y2.2.1.1.2.2.2.2.2.2.2.2.2.2.1,y2.2.1.1.2.2.2.2.2.2.2.2.2.2.2.1,y2.2.1.1.2.2.2.2.2.2.2.2.2.2.2.2.1,()),(y2.1.2.1.1,y2.2.1.2.1.2.2.2.1,y2.2.1.2.1.2.2.2.2.1,(),y2.2.1.2.1.2.2.2.2.2.2.1,y2.2.1.2.1.2.2.2.2.2.2.2.1,y2.2.1.2.1.2.2.2.2.2.1,y2.2.1.2.1.2.2.2.2.2.1,y2.2.1.2.1.2.1,(),(-1),false,false,()),()),(r4,()))) (fun y6 =>
 let r8:=yH (y6.2.1.2.1.1,(y6.2.1.2.1.2.1,y6.2.1.2.1.2.2.1),y6.2.2.1,y6.2.1.2.1.2.2.2.2.1,y6.2.1.2.1.2.2.2.2.2.1,y6.2.1.2.1.2.2.2.2.2.2.1,y6.2.1.2.1.2.2.2.2.2.2.2.1,y6.2.1.2.1.2.2.2.2.2.2.2.2.1,[],y6.2.1.2.1.2.2.2.2.2.2.2.2.2.2.1,y6.2.1.2.1.2.2.2.2.2.2.2.2.2.2.2.1,y6.2.1.2.1.2.2.2.2.2.2.2.2.2.2.2.2.1)
 bif (!r8) then
 some (((0,(0,0),[],0,0,0,0,0,[],0,false,false),false,()),())
 else
 some (((y6.2.1.2.1.1,(y6.2.1.2.1.2.1,y6.2.1.2.1.2.2.1),y6.2.2.1,y6.2.1.2.1.2.2.2.2.1,y6.2.1.2.1.2.2.2.2.2.1,y6.2.1.2.1.2.2.2.2.2.2.1,y6.2.1.2.1.2.2.2.2.2.2.2.1,y6.2.1.2.1.2.2.2.2.2.2.2.2.1,[],y6.2.1.2.1.2.2.2.2.2.2.2.2.2.2.1,y6.2.1.2.1.2.2.2.2.2.2.2.2.2.2.2.1,y6.2.1.2.1.2.2.2.2.2.2.2.2.2.2.2.2.1),true,()),())) (fun y6 =>
 none)
 else
 some (((0,(0,0),[],0,0,0,0,0,[],0,false,false),false,()),())) (fun y2 =>
 none)
theorem yR2 (x:InD yeO):zjx ⟨yeN,109,yzb⟩ Tryz.f50.results.toList yby yeO ynN x=yjQ x.1 x.2.1:=by kernel_rfl
theorem yNb:ConOk Tryz.prog 50 ⟨yeO,ynN,fun x=>yjQ x.1 x.2.1⟩:=zj1 (yKe) Tryz.func50 (by kernel_rfl) (by kernel_rfl) Tryz.ntmps50.symm (by decide) (fun x r h=>(yR2 x).trans h)
def yi5 (a0:List dM) (a1:Int):dA×Bool:=yGS a0 a1
theorem yP0 (a0:List dM) (a1:Int) (hk:zi2 yeO (a0,a1,())):yjQ a0 a1=(fun n=>some ((n.1,n.2,()),())) (yi5 a0 a1):=by
 have hb:a0.length * 80≤2 ^ 47:=hk.1.1
 have h0:yo5 (yIX a0 a1 a0 a0.length yZ yfe)=some (.inl (ywz a0 a1 (ye8 a0 a1).2 yZ (ye8 a0 a1).1)) :=
  zj8 (step:=ybe) a0.length (fun i (s:dS×Bool)=>ynm a0 a1 s.2 a0 a0.length i yZ s.1) (fun (s:dS×Bool) (i:Nat)=>ymG s (ysO (nth a0 i noMem) i a1) (ya5 (nth a0 i noMem) a1).1) (fun _ _=>True) (fun (s:dS×Bool)=> .inl (ywz a0 a1 s.2 yZ s.1)) (fun i s hi _=>⟨by
  simp only [ybe,ynm,ynv,zj4 (show (i:Int) < a0.length by omega),cond_true,wr (show -9223372036854775808≤(i:Int)+1 by omega) (by omega),Int.natCast_add,Int.natCast_one,Int.toNat_natCast,zkl hi,zkr,yc4]
  cases ysO (nth a0 i noMem) i a1
  ·rfl
  simp only [cond_true]
  unfold ymG
  cases hf:s.2<;>cases ltb s.1.2.1 (ya5 (nth a0 i noMem) a1).1.2.1<;>simp only [Bool.not_true,Bool.not_false,cond_true,cond_false,Bool.and_true,Bool.true_and,Bool.false_and,Bool.and_false,Bool.or_true,Bool.true_or,Bool.false_or,Bool.or_false,hf],trivial⟩) (fun s _=>by simp only [ybe,ynm,ynv,zkx (Int.le_refl _),cond_false]) (yfe,false) trivial _ (by show _ < 18446744073709551616; omega)
 have h1: ∀ (b:dS) (s:Int×Int×Bool),ynf (yG9 a1 a0 a0.length yZ (yuZ b a0 a1 s))=some (.inl (yvw yZ (yuZ b a0 a1 ((List.range a0.length).foldl (yne a0 a1) s)))):=fun b s =>
  zj8 (step:=yaQ) a0.length (fun i s=>ylH a1 a0 a0.length i yZ (yuZ b a0 a1 s)) (yne a0 a1) (fun _ _=>True) (fun s=> .inl (yvw yZ (yuZ b a0 a1 s))) (fun i s hi _=>⟨by
   simp only [yaQ,ylH,yl4,zj4 (show (i:Int) < a0.length by omega),cond_true,wr (show -9223372036854775808≤(i:Int)+1 by omega) (by omega),Int.natCast_add,Int.natCast_one,Int.toNat_natCast,zkl hi,zkr,yc4,yuZ]
   unfold yne
   cases ysO (nth a0 i noMem) i a1<;>cases (s.1== -1)<;>cases (s.1==(i:Int))<;>rfl,trivial⟩) (fun s _=>by simp only [yaQ,ylH,yl4,zkx (Int.le_refl _),cond_false]) s trivial _ (by show _ < 18446744073709551616; omega)
 unfold yjQ yi5 yGS yJ4
 refine (congrArg (fun z=>zkh z _ _) h0).trans ?_
 simp only [zki,yjc,bne]
 cases (ye8 a0 a1).2
 ·rfl
 cases ((a0.length:Int)==(ye8 a0 a1).1.2.2.2.1)
 ·rfl
 have h2:=h1 (ye8 a0 a1).1 ((ye8 a0 a1).1.2.2.2.2.2.2.1,(ye8 a0 a1).1.2.2.2.2.2.2.2,false)
 simp only [Bool.not_true,Bool.not_false,cond_true,cond_false,Bool.true_and]
 refine (congrArg (fun z=>zkh z _ _) h2).trans ?_
 simp only [zki,yH]
 show (bif !(yV (yuZ (ye8 a0 a1).1 a0 a1 ((List.range a0.length).foldl (yne a0 a1) ((ye8 a0 a1).1.2.2.2.2.2.2.1,(ye8 a0 a1).1.2.2.2.2.2.2.2,false)))) then _ else _)=_
 cases yV (yuZ (ye8 a0 a1).1 a0 a1 ((List.range a0.length).foldl (yne a0 a1) ((ye8 a0 a1).1.2.2.2.2.2.2.1,(ye8 a0 a1).1.2.2.2.2.2.2.2,false)))<;>rfl
def yzH:Con:=⟨yeO,ynN,fun x=>(fun n=>some ((n.1,n.2,()),())) (yi5 x.1 x.2.1)⟩
theorem yQM:ConOk Tryz.prog 50 yzH:=(yNb).mono (fun x r hk h=>(yP0 x.1 x.2.1 hk).trans h)
end
section
def yJp:Code:=(Tryz.f51.body).getD .skip
def yJI:Env:=zj2 TT [(120,yoj)] []
theorem ySG:FrOk Tryz.prog ⟨yJI,6,fun _=>none⟩ yJp:=zj6 yc yd ⟨yw4,trivial⟩
def yU7:Nat→Option Seg:=fun _=>none
abbrev ykp:List Par:= [.rd tG]
abbrev yuG:List OT:= [⟨false,tL,(.ow .fz)⟩]
def yqQ (a0:dG):Option (ResD yuG×MutD ykp) :=
 let r1:=yfp a0
 bif (zjY r1 8) then
 some (((List.replicate (r1).toNat (0:Int)),()),())
 else none
theorem yZB (x:InD ykp):zjx ⟨yJI,6,yU7⟩ Tryz.f51.results.toList yJp ykp yuG x=yqQ x.1:=by kernel_rfl
theorem yWE:ConOk Tryz.prog 51 ⟨ykp,yuG,fun x=>yqQ x.1⟩:=zj1 (ySG) Tryz.func51 (by kernel_rfl) (by kernel_rfl) Tryz.ntmps51.symm (by decide) (fun x r h=>(yZB x).trans h)
def ypN (a0:Int×Int):List Int:=List.replicate (yg a0).toNat 0
theorem yYJ (a0:Int×Int) (hk:zi2 ykp (a0,())):yqQ a0=(fun n=>some ((n,()),())) (ypN a0):=by
 have hb:=yq0 a0
 unfold yqQ ypN
 simp only [yw3,show zjY (yg a0) 8=true by rw [zkg]; omega,cond_true]
def yGm:Con:=⟨ykp,yuG,fun x=>(fun n=>some ((n,()),())) (ypN x.1)⟩
theorem yY4:ConOk Tryz.prog 51 yGm:=(yWE).mono (fun x r hk h=>(yYJ x.1 hk).trans h)
end
section
def yHA:Code:=(Tryz.f5.body).getD .skip
def yH7:Env:=zj2 TT [(12,yJ5),(25,yBB),(32,yIo),(33,yIn),(36,yjL),(37,yzI),(41,ywg),(42,yEk),(43,yxV),(44,ywh),(45,ygm),(46,ywX),(47,yu1),(48,yon),(49,yu6),(50,yzH),(51,yGm)] []
theorem yOQ:FrOk Tryz.prog ⟨yH7,94,fun _=>none⟩ yHA:=zj6 yc yd ⟨y0G,yUw,y0j,y0i,ytu,yQN,yLg,yW1,yNC,yLh,ym1,yIs,yGF,yw7,yGI,yQM,yY4,trivial⟩
def yRq:Nat→Option Seg:=fun _=>none
abbrev yhJ:List Par:= [.kp tYs .fz]
abbrev ysm:List OT:= [⟨false,tB,.fz⟩]
def yoC (a0:List Int):Option (ResD ysm×MutD yhJ) :=
 let r1:=yvB a0
 bif r1 then
 some ((true,()),())
 else
 bnd (ybD a0) fun r2 =>
 let r3:=ymP r2.1.1 r2.1.2.1
 bnd (ycr a0) fun r4 =>
 bnd (ybE a0) fun r5 =>
 let r6:=yH r4.1.1
 let r7:=yeG r4.1.1
 bif (!(!(r6==r7))) then
 let r8:=yfq r5.1.1 r5.1.2.1 r5.1.2.2.1
 let r9:=ybb r5.1.1 r5.1.2.1 r5.1.2.2.1
 bif (!(!(r8==r9))) then
 let r10:=yfs r2.1.1 r2.1.2.1
 bnd (ycb r3 r10) fun r11 =>
 bif (!r11.1.1) then
 some ((false,()),())
 else
 bif ((r3.2.2.1.length:Int)==0) then
 let r12:=yH r3
 some (((!r12),()),())
 else
 let r13:=yi5 r3.2.2.1 r2.1.1
 let r14:=yH r3
 bif r14 then
 let r15:=yi6 r3
 let r16:=ypN r2.1.2.1
 let r17:=yah r15 r16
 bif r17 then
 let r18:=yrX r3
 bif r18 then
 let r19:=yrW r3
 bif (r19==0) then
 bif r13.2 then
 bnd (ycb r13.1 r3) fun r20 =>
 some ((r20.1.1,()),())
 else
 some ((false,()),())
 else
 some ((false,()),())
 else
 some ((false,()),())
 else
 some ((false,()),())
 else
 some ((false,()),())
 else
 some ((false,()),())
 else
 some ((false,()),())
theorem yYa (x:InD yhJ):zjx ⟨yH7,94,yRq⟩ Tryz.f5.results.toList yHA yhJ ysm x=yoC x.1:=by kernel_rfl
theorem yT1:ConOk Tryz.prog 5 ⟨yhJ,ysm,fun x=>yoC x.1⟩:=zj1 (yOQ) Tryz.func5 (by kernel_rfl) (by kernel_rfl) Tryz.ntmps5.symm (by decide) (fun x r h=>(yYa x).trans h)
def yyU (a0:List Int):Bool:=true
theorem yXV (a0:List Int) (hb:a0.length≤140737488355328): ∃ (id:Int) (g:dG),ybD a0=some ((id,g,()),()):=by
 unfold ybD
 obtain ⟨id,u1,e1,_,d1⟩:=yi3 _ [1,60000,0,60001] (yZt a0 hb) (by simp)
 obtain ⟨g,u2,e2,d2⟩:=y1Z u1 d1
 simp only [e1,e2,zkc]
 exact ⟨id,g,rfl⟩
theorem yZr (a0:List Int) (hb:a0.length≤140737488355328): ∃ a:dA,ycr a0=some ((a,()),()):=by
 unfold ycr
 obtain ⟨h1,h2⟩:=y0Q a0 12 (by omega) hb
 obtain ⟨a,u1,e1,q1,d1⟩:=yZs _ _ (yZt a0 hb) h1 (by omega)
 simp only [e1,zkc]
 exact ⟨a,rfl⟩
theorem yXW (a0:List Int) (hb:a0.length≤140737488355328): ∃ (a:dA) (m s:Int),ybE a0=some ((a,m,s,()),()):=by
 unfold ybE
 obtain ⟨h1,h2⟩:=y0Q a0 10 (by omega) hb
 obtain ⟨a,u1,e1,q1,d1⟩:=yZs _ _ (yZt a0 hb) h1 (by omega)
 obtain ⟨m,u2,e2,_,d2⟩:=yi3 u1 [0,1,2,(-1),5] d1 (by simp)
 obtain ⟨s,u3,e3,_,d3⟩:=yi3 u2 [0,1,2,(-1),8] d2 (by simp)
 simp only [e1,e2,e3,zkc]
 exact ⟨a,m,s,rfl⟩
theorem yWd (a0:List Int) (hk:zi2 yhJ (a0,())):yoC a0=(fun n=>some ((n,()),())) (yyU a0):=by
 have hb:a0.length≤140737488355328:=by have:a0.length * 1≤2 ^ 47:=hk.1.1; omega
 obtain ⟨id,g,e1⟩:=yXV a0 hb
 obtain ⟨b,e2⟩:=yZr a0 hb
 obtain ⟨c,m,s,e3⟩:=yXW a0 hb
 unfold yoC yyU
 simp only [e1,e2,e3,zkc,ymP,yfs,yH,yeG,yfq,ybb,beq_self_eq_true,Bool.not_true,Bool.not_false,cond_true,cond_false]
 by_cases hn:yb g=true∧1≤id∧id≤60000
 ·obtain ⟨hg,h1,h2⟩:=hn
  have hw:=yU4 hg h1 h2
  have ha:=yU3 hw
  have hlen:yxs (yw id g):=yZ5 (yZ7 ha) (by rw [ygb hg h1 h2]; exact Nat.zero_le _)
  have hge:=yi.1 hg
  have hml:(((yw id g).2.2.1.length:Int)==0)=false:=beq_eq_false_iff_ne.2 (by rw [yD2 ha,show (yw id g).2.1.1=g.1 by rw [ygb hg h1 h2]]; omega)
  simp only [y0l _ hlen,zkc,Bool.not_true,cond_false,hml,yi5,yi6,ypN,yrX,yrW,y2G hg h1 h2,yZ8 hg h1 h2,y2D (yZ1 hg h1 h2),y2e hg h1 h2,ha,ym8,beq_self_eq_true,cond_true]
  cases yvB a0<;>rfl
 ·have e:yw id g=yZ:=by
   unfold yw
   cases hc:(yb g&&(leb 1 id&&leb id 60000))
   ·rfl
   ·simp only [Bool.and_eq_true,zjE]at hc
    exact absurd hc hn
  have hlen:yxs yZ:=⟨Nat.zero_le _,fun m hm=>absurd hm List.not_mem_nil,Nat.zero_le _⟩
  rw [e]
  simp only [y0l _ hlen,zkc,Bool.not_true,cond_false]
  cases yvB a0<;>rfl
def yR0:Con:=⟨yhJ,ysm,fun x=>(fun n=>some ((n,()),())) (yyU x.1)⟩
theorem yW7:ConOk Tryz.prog 5 yR0:=(yT1).mono (fun x r hk h=>(yWd x.1 hk).trans h)
end
end
end Go.Tf
