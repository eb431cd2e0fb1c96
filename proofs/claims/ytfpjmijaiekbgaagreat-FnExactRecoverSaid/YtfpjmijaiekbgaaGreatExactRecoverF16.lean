/- Functions of the program, and what they come to. -/
import Derived.Test.YtfpjmijaiekbgaaGreatExactRecoverF15
namespace Go.Tf
noncomputable section
open Go.Proofs
set_option synthInstance.maxHeartbeats 400000
set_option synthInstance.maxSize 10000
set_option linter.unusedVariables false
set_option linter.unusedSimpArgs false
set_option maxRecDepth 100000
section
def yh0:Code:=(Tryz.f152.body).getD .skip
def yoF:Env:=zki TT [(215,ygZ)] []
theorem yLK:FrOk Tryz.prog ⟨yoF,20,fun _=>none⟩ yh0:=zkp yb yc ⟨ypy,trivial⟩
def yAU:Nat→Option Seg:=fun _=>none
def yaS:Shape:=⟨[(3,false,[.at 800000000]),(7,false,[.br tM]),(8,false,[.int .i64]),(9,false,[.int .i64])],[],[(800000000,tM,(.pr (.ow (.ow .fz)) (.pr (.ow (.pr .fz (.ow .fz))) (.pr .fz (.ow .fz)))))]⟩
def yeE:Shape:=⟨[(3,false,[.at 800000000]),(7,false,[.br tM]),(8,false,[.int .i64]),(9,false,[.ci .i64 0])],[],[(800000000,tM,(.pr (.ow (.ow .fz)) (.pr (.ow (.pr .fz (.ow .fz))) (.pr .fz (.ow .fz)))))]⟩
def yew:Shape:=⟨[(3,false,[.at 800000000])],[],[(800000000,tM,(.pr (.ow (.ow .fz)) (.pr (.ow (.pr .fz (.ow .fz))) (.pr .fz (.ow .fz)))))]⟩
def yi2:Shape:=⟨[],[],[]⟩
abbrev yoc (v0:List dM) (v1:Int) (v2:Int) (v3:List dM):(yaS).X:=((((),()),(v0,()),(v1,()),(v2,()),()),(),(v3,()))
abbrev yKn (v0:List dM) (v1:Int) (v2:List dM):(yeE).X:=((((),()),(v0,()),(v1,()),((),()),()),(),(v2,()))
abbrev yKh (v0:List dM):(yew).X:=((((),()),()),(),(v0,()))
def yor (v0:List dM) (v1:Int) (v2:Int) (v3:List dM):Option ((yaS).X ⊕ ((yew).X ⊕ (yi2).X)) :=
  bif (ltb v2 v1) then
    bif (inb v2 v0.length) then
      let r2:=yT ((nth v0 v2 ([],[],false,[])).1,((nth v0 v2 ([],[],false,[])).2).1,(((nth v0 v2 ([],[],false,[])).2).2))
      bif (zj4 v3.length ([r2]:List dM).length 80) then
        some (.inl ((((),()),(v0,()),(v1,()),((IntKind.i64.wrap (v2+1)),()),()),(),((v3++([r2]:List dM)),())))
      else none
    else none
  else
    some (.inr (.inl ((((),()),()),(),(v3,()))))
def ya8 (x:(yaS).X):=yor x.1.2.1.1 x.1.2.2.1.1 x.1.2.2.2.1.1 x.2.2.1
def yxt (x:(yeE).X):(yaS).X:=((((),()),(x.1.2.1.1,()),(x.1.2.2.1.1,()),(0,()),()),(),(x.2.2.1,()))
def yzb:Code:=(zdI yh0 64 116).getD .skip
theorem yLe:zdI yh0 64 29=some (.block 0 (.loop yzb)):=by kernel_rfl
theorem yMZ (x:(yaS).X):zg7 ⟨yoF,20,yAU⟩ 0 yzb 116 yaS yew yi2 x=ya8 x:=by kernel_rfl
def yxH (x:(yeE).X):Nat:=(fun (u0:List dM) (u1:Int) (u2:List dM)=>18446744073709551616) x.1.2.1.1 x.1.2.2.1.1 x.2.2.1
def yqb (x:(yeE).X):Option ((yew).X ⊕ (yi2).X):=zr ya8 (yxH x) (yxt x)
def yx0:Seg:=⟨yeE,yew,yi2,yqb⟩
def yAV:Nat→Option Seg:=fun q=>bif Nat.beq q 29 then some yx0 else yAU q
theorem yLL:FrOk Tryz.prog ⟨yoF,20,yAV⟩ yh0:=(yLK).loop (sg:=yx0) yaS yxt (by decide) yLe ya8 yxH (by decide) (fun _=>rfl) (fun x r _ h=>h) yMZ
abbrev yeW:List Par:= [.rd tMs]
abbrev yo2:List OT:= [⟨false,tMs,(.ow (.pr (.ow (.ow .fz)) (.pr (.ow (.pr .fz (.ow .fz))) (.pr .fz (.ow .fz)))))⟩]
def ykt (a0:List dM):Option (ResD yo2×MutD yeW) :=
  zjw (yqb ((((),()),(a0,()),((a0.length:Int),()),((),()),()),(),(([]:List dM),()))) (fun y2 =>
    some ((y2.2.2.1,()),())) (fun y2 =>
    none)
theorem yT9 (x:InD yeW):zjH ⟨yoF,20,yAV⟩ Tryz.f152.results.toList yh0 yeW yo2 x=ykt x.1:=by kernel_rfl
theorem yO4:ConOk Tryz.prog 152 ⟨yeW,yo2,fun x=>ykt x.1⟩:=zkh (yLL) Tryz.func152 (by kernel_rfl) (by kernel_rfl) Tryz.ntmps152.symm (by decide) (fun x r h=>(yT9 x).trans h)
def yfh (a0:List dM):List dM:=a0
theorem yR1 (a0:List dM) (hk:zi9 yeW (a0,())):ykt a0=(fun n=>some ((n,()),())) (yfh a0):=by
  have hb:a0.length * 80≤2 ^ 47:=hk.1.1
  have h1:=zkk (step:=ya8) a0 yf (fun i s=>yoc a0 a0.length i s) (fun s x=>s++ [x]) (fun i s=>s.length=i) (fun s=> .inl (yKh s)) (fun i s hi hs=>⟨by
      simp only [ya8,yoc,yor,zjI (show (i:Int) < a0.length by omega),cond_true,wr (show -9223372036854775808≤(i:Int)+1 by omega) (by omega),Int.natCast_add,Int.natCast_one,Int.toNat_natCast,zkO hi,zjW,yT,zkV]
      rw [zkw.2 (show (s.length+ [a0.getD i ([],[],false,[])].length) * 80≤140737488355328 by simp only [List.length_cons,List.length_nil]; omega)]; rfl,by simp [hs]⟩) (fun s hs=>by simp only [ya8,yoc,yor,zkm (Int.le_refl _),cond_false]) [] rfl 18446744073709551616 (by omega)
  rw [yux]at h1
  unfold ykt yfh
  rw [show yqb (yKn a0 a0.length [])=_ from h1]; rfl
def ysu:Con:=⟨yeW,yo2,fun x=>(fun n=>some ((n,()),())) (yfh x.1)⟩
theorem yEJ:ConOk Tryz.prog 152 ysu:=(yO4).mono (fun x r hk h=>(yR1 x.1 hk).trans h)
end
section
def ykL:Code:=(Tryz.f76.body).getD .skip
def yq8:Env:=zki TT [(151,yam),(152,ysu)] []
theorem yNW:FrOk Tryz.prog ⟨yq8,31,fun _=>none⟩ ykL:=zkp yb yc ⟨yca,yEJ,trivial⟩
def yCW:Nat→Option Seg:=fun _=>none
def ybm:Shape:=⟨[(1,false,[.ptr 0 0]),(2,false,[.ptr 64 0]),(3,false,[.at 800000000]),(8,false,[.br tW]),(9,false,[.int .i64]),(10,false,[.int .i64])],[(0,[.int .i64,.int .i64,.int .i64,.br tM,.int .i64,.int .i64,.int .i64,.int .i64,.int .i64,.br tW,.int .i64,.bool,.bool]),(64,[.int .i64,.int .i64,.int .i64,.nil,.int .i64,.int .i64,.int .i64,.int .i64,.int .i64,.nil,.int .i64,.bool,.bool])],[(800000000,tW,(.pr .fz (.ow .fz)))]⟩
def yfK:Shape:=⟨[(1,false,[.ptr 0 0]),(2,false,[.ptr 64 0]),(3,false,[.at 800000000]),(8,false,[.br tW]),(9,false,[.int .i64]),(10,false,[.ci .i64 0])],[(0,[.int .i64,.int .i64,.int .i64,.br tM,.int .i64,.int .i64,.int .i64,.int .i64,.int .i64,.br tW,.int .i64,.bool,.bool]),(64,[.int .i64,.int .i64,.int .i64,.nil,.int .i64,.int .i64,.int .i64,.int .i64,.int .i64,.nil,.int .i64,.bool,.bool])],[(800000000,tW,(.pr .fz (.ow .fz)))]⟩
def yfz:Shape:=⟨[(1,false,[.ptr 0 0]),(2,false,[.ptr 64 0]),(3,false,[.at 800000000])],[(0,[.int .i64,.int .i64,.int .i64,.br tM,.int .i64,.int .i64,.int .i64,.int .i64,.int .i64,.br tW,.int .i64,.bool,.bool]),(64,[.int .i64,.int .i64,.int .i64,.nil,.int .i64,.int .i64,.int .i64,.int .i64,.int .i64,.nil,.int .i64,.bool,.bool])],[(800000000,tW,(.pr .fz (.ow .fz)))]⟩
def yj4:Shape:=⟨[],[],[]⟩
abbrev yqz (v0:List dW) (v1:Int) (v2:Int) (v3:dA) (v4:dA) (v5:List dW):(ybm).X:=((((),()),((),()),((),()),(v0,()),(v1,()),(v2,()),()),((v3.1,v3.2.1.1,v3.2.1.2,v3.2.2.1,v3.2.2.2.1,v3.2.2.2.2.1,v3.2.2.2.2.2.1,v3.2.2.2.2.2.2.1,v3.2.2.2.2.2.2.2.1,v3.2.2.2.2.2.2.2.2.1,v3.2.2.2.2.2.2.2.2.2.1,v3.2.2.2.2.2.2.2.2.2.2.1,v3.2.2.2.2.2.2.2.2.2.2.2,()),(v4.1,v4.2.1.1,v4.2.1.2,(),v4.2.2.2.1,v4.2.2.2.2.1,v4.2.2.2.2.2.1,v4.2.2.2.2.2.2.1,v4.2.2.2.2.2.2.2.1,(),v4.2.2.2.2.2.2.2.2.2.1,v4.2.2.2.2.2.2.2.2.2.2.1,v4.2.2.2.2.2.2.2.2.2.2.2,()),()),(v5,()))
abbrev yMn (v0:List dW) (v1:Int) (v2:dA) (v3:dA) (v4:List dW):(yfK).X:=((((),()),((),()),((),()),(v0,()),(v1,()),((),()),()),((v2.1,v2.2.1.1,v2.2.1.2,v2.2.2.1,v2.2.2.2.1,v2.2.2.2.2.1,v2.2.2.2.2.2.1,v2.2.2.2.2.2.2.1,v2.2.2.2.2.2.2.2.1,v2.2.2.2.2.2.2.2.2.1,v2.2.2.2.2.2.2.2.2.2.1,v2.2.2.2.2.2.2.2.2.2.2.1,v2.2.2.2.2.2.2.2.2.2.2.2,()),(v3.1,v3.2.1.1,v3.2.1.2,(),v3.2.2.2.1,v3.2.2.2.2.1,v3.2.2.2.2.2.1,v3.2.2.2.2.2.2.1,v3.2.2.2.2.2.2.2.1,(),v3.2.2.2.2.2.2.2.2.2.1,v3.2.2.2.2.2.2.2.2.2.2.1,v3.2.2.2.2.2.2.2.2.2.2.2,()),()),(v4,()))
abbrev yMf (v0:dA) (v1:dA) (v2:List dW):(yfz).X:=((((),()),((),()),((),()),()),((v0.1,v0.2.1.1,v0.2.1.2,v0.2.2.1,v0.2.2.2.1,v0.2.2.2.2.1,v0.2.2.2.2.2.1,v0.2.2.2.2.2.2.1,v0.2.2.2.2.2.2.2.1,v0.2.2.2.2.2.2.2.2.1,v0.2.2.2.2.2.2.2.2.2.1,v0.2.2.2.2.2.2.2.2.2.2.1,v0.2.2.2.2.2.2.2.2.2.2.2,()),(v1.1,v1.2.1.1,v1.2.1.2,(),v1.2.2.2.1,v1.2.2.2.2.1,v1.2.2.2.2.2.1,v1.2.2.2.2.2.2.1,v1.2.2.2.2.2.2.2.1,(),v1.2.2.2.2.2.2.2.2.2.1,v1.2.2.2.2.2.2.2.2.2.2.1,v1.2.2.2.2.2.2.2.2.2.2.2,()),()),(v2,()))
def yqP (v0:List dW) (v1:Int) (v2:Int) (v3:Int) (v4:Int) (v5:Int) (v6:List dM) (v7:Int) (v8:Int) (v9:Int) (v10:Int) (v11:Int) (v12:List dW) (v13:Int) (v14:Bool) (v15:Bool) (v16:Int) (v17:Int) (v18:Int) (v19:Int) (v20:Int) (v21:Int) (v22:Int) (v23:Int) (v24:Int) (v25:Bool) (v26:Bool) (v27:List dW):Option ((ybm).X ⊕ ((yfz).X ⊕ (yj4).X)) :=
  bif (ltb v2 v1) then
    bif (inb v2 v0.length) then
      let r2:=yj ((nth v0 v2 (0,[])).2)
      bif (zj4 v27.length ([((nth v0 v2 (0,[])).1,r2)]:List dW).length 32) then
        some (.inl ((((),()),((),()),((),()),(v0,()),(v1,()),((IntKind.i64.wrap (v2+1)),()),()),((v3,v4,v5,v6,v7,v8,v9,v10,v11,v12,v13,v14,v15,()),(v16,v17,v18,(),v19,v20,v21,v22,v23,(),v24,v25,v26,()),()),((v27++([((nth v0 v2 (0,[])).1,r2)]:List dW)),())))
      else none
    else none
  else
    some (.inr (.inl ((((),()),((),()),((),()),()),((v3,v4,v5,v6,v7,v8,v9,v10,v11,v12,v13,v14,v15,()),(v16,v17,v18,(),v19,v20,v21,v22,v23,(),v24,v25,v26,()),()),(v27,()))))
def ybE (x:(ybm).X):=yqP x.1.2.2.2.1.1 x.1.2.2.2.2.1.1 x.1.2.2.2.2.2.1.1 x.2.1.1.1 x.2.1.1.2.1 x.2.1.1.2.2.1 x.2.1.1.2.2.2.1 x.2.1.1.2.2.2.2.1 x.2.1.1.2.2.2.2.2.1 x.2.1.1.2.2.2.2.2.2.1 x.2.1.1.2.2.2.2.2.2.2.1 x.2.1.1.2.2.2.2.2.2.2.2.1 x.2.1.1.2.2.2.2.2.2.2.2.2.1 x.2.1.1.2.2.2.2.2.2.2.2.2.2.1 x.2.1.1.2.2.2.2.2.2.2.2.2.2.2.1 x.2.1.1.2.2.2.2.2.2.2.2.2.2.2.2.1 x.2.1.2.1.1 x.2.1.2.1.2.1 x.2.1.2.1.2.2.1 x.2.1.2.1.2.2.2.2.1 x.2.1.2.1.2.2.2.2.2.1 x.2.1.2.1.2.2.2.2.2.2.1 x.2.1.2.1.2.2.2.2.2.2.2.1 x.2.1.2.1.2.2.2.2.2.2.2.2.1 x.2.1.2.1.2.2.2.2.2.2.2.2.2.2.1 x.2.1.2.1.2.2.2.2.2.2.2.2.2.2.2.1 x.2.1.2.1.2.2.2.2.2.2.2.2.2.2.2.2.1 x.2.2.1
def yzt (x:(yfK).X):(ybm).X:=((((),()),((),()),((),()),(x.1.2.2.2.1.1,()),(x.1.2.2.2.2.1.1,()),(0,()),()),((x.2.1.1.1,x.2.1.1.2.1,x.2.1.1.2.2.1,x.2.1.1.2.2.2.1,x.2.1.1.2.2.2.2.1,x.2.1.1.2.2.2.2.2.1,x.2.1.1.2.2.2.2.2.2.1,x.2.1.1.2.2.2.2.2.2.2.1,x.2.1.1.2.2.2.2.2.2.2.2.1,x.2.1.1.2.2.2.2.2.2.2.2.2.1,x.2.1.1.2.2.2.2.2.2.2.2.2.2.1,x.2.1.1.2.2.2.2.2.2.2.2.2.2.2.1,x.2.1.1.2.2.2.2.2.2.2.2.2.2.2.2.1,()),(x.2.1.2.1.1,x.2.1.2.1.2.1,x.2.1.2.1.2.2.1,(),x.2.1.2.1.2.2.2.2.1,x.2.1.2.1.2.2.2.2.2.1,x.2.1.2.1.2.2.2.2.2.2.1,x.2.1.2.1.2.2.2.2.2.2.2.1,x.2.1.2.1.2.2.2.2.2.2.2.2.1,(),x.2.1.2.1.2.2.2.2.2.2.2.2.2.2.1,x.2.1.2.1.2.2.2.2.2.2.2.2.2.2.2.1,x.2.1.2.1.2.2.2.2.2.2.2.2.2.2.2.2.1,()),()),(x.2.2.1,()))
def yBj:Code:=(zdI ykL 64 116).getD .skip
theorem yNu:zdI ykL 64 29=some (.block 0 (.loop yBj)):=by kernel_rfl
theorem yPw (x:(ybm).X):zg7 ⟨yq8,31,yCW⟩ 0 yBj 116 ybm yfz yj4 x=ybE x:=by kernel_rfl
def yzM (x:(yfK).X):Nat:=(fun (u0:List dW) (u1:Int) (u2:Int) (u3:Int) (u4:Int) (u5:List dM) (u6:Int) (u7:Int) (u8:Int) (u9:Int) (u10:Int) (u11:List dW) (u12:Int) (u13:Bool) (u14:Bool) (u15:Int) (u16:Int) (u17:Int) (u18:Int) (u19:Int) (u20:Int) (u21:Int) (u22:Int) (u23:Int) (u24:Bool) (u25:Bool) (u26:List dW)=>18446744073709551616) x.1.2.2.2.1.1 x.1.2.2.2.2.1.1 x.2.1.1.1 x.2.1.1.2.1 x.2.1.1.2.2.1 x.2.1.1.2.2.2.1 x.2.1.1.2.2.2.2.1 x.2.1.1.2.2.2.2.2.1 x.2.1.1.2.2.2.2.2.2.1 x.2.1.1.2.2.2.2.2.2.2.1 x.2.1.1.2.2.2.2.2.2.2.2.1 x.2.1.1.2.2.2.2.2.2.2.2.2.1 x.2.1.1.2.2.2.2.2.2.2.2.2.2.1 x.2.1.1.2.2.2.2.2.2.2.2.2.2.2.1 x.2.1.1.2.2.2.2.2.2.2.2.2.2.2.2.1 x.2.1.2.1.1 x.2.1.2.1.2.1 x.2.1.2.1.2.2.1 x.2.1.2.1.2.2.2.2.1 x.2.1.2.1.2.2.2.2.2.1 x.2.1.2.1.2.2.2.2.2.2.1 x.2.1.2.1.2.2.2.2.2.2.2.1 x.2.1.2.1.2.2.2.2.2.2.2.2.1 x.2.1.2.1.2.2.2.2.2.2.2.2.2.2.1 x.2.1.2.1.2.2.2.2.2.2.2.2.2.2.2.1 x.2.1.2.1.2.2.2.2.2.2.2.2.2.2.2.2.1 x.2.2.1
def ysd (x:(yfK).X):Option ((yfz).X ⊕ (yj4).X):=zr ybE (yzM x) (yzt x)
def yAc:Seg:=⟨yfK,yfz,yj4,ysd⟩
def yCX:Nat→Option Seg:=fun q=>bif Nat.beq q 29 then some yAc else yCW q
theorem yNX:FrOk Tryz.prog ⟨yq8,31,yCX⟩ ykL:=(yNW).loop (sg:=yAc) ybm yzt (by decide) yNu ybE yzM (by decide) (fun _=>rfl) (fun x r _ h=>h) yPw
abbrev ygd:List Par:= [.rd tA]
abbrev yrp:List OT:= [⟨false,tA,(.pr .fz (.pr (.pr .fz .fz) (.pr (.ow (.pr (.ow (.ow .fz)) (.pr (.ow (.pr .fz (.ow .fz))) (.pr .fz (.ow .fz))))) (.pr .fz (.pr .fz (.pr .fz (.pr .fz (.pr .fz (.pr (.ow (.pr .fz (.ow .fz))) (.pr .fz (.pr .fz .fz)))))))))))⟩]
def ymM (a0:dA):Option (ResD yrp×MutD ygd) :=
  zjw (ysd ((((),()),((),()),((),()),(a0.2.2.2.2.2.2.2.2.1,()),((a0.2.2.2.2.2.2.2.2.1.length:Int),()),((),()),()),((a0.1,a0.2.1.1,a0.2.1.2,a0.2.2.1,a0.2.2.2.1,a0.2.2.2.2.1,a0.2.2.2.2.2.1,a0.2.2.2.2.2.2.1,a0.2.2.2.2.2.2.2.1,a0.2.2.2.2.2.2.2.2.1,a0.2.2.2.2.2.2.2.2.2.1,a0.2.2.2.2.2.2.2.2.2.2.1,a0.2.2.2.2.2.2.2.2.2.2.2,()),(0,0,0,(),0,0,0,0,0,(),0,false,false,()),()),(([]:List dW),()))) (fun y2 =>
    let r4:=yfh y2.2.1.1.2.2.2.1
    some (((y2.2.1.1.1,(y2.2.1.1.2.1,y2.2.1.1.2.2.1),r4,y2.2.1.1.2.2.2.2.1,y2.2.1.1.2.2.2.2.2.1,y2.2.1.1.2.2.2.2.2.2.1,y2.2.1.1.2.2.2.2.2.2.2.1,y2.2.1.1.2.2.2.2.2.2.2.2.1,y2.2.2.1,y2.2.1.1.2.2.2.2.2.2.2.2.2.2.1,y2.2.1.1.2.2.2.2.2.2.2.2.2.2.2.1,y2.2.1.1.2.2.2.2.2.2.2.2.2.2.2.2.1),()),())) (fun y2 =>
    none)
theorem yXf (x:InD ygd):zjH ⟨yq8,31,yCX⟩ Tryz.f76.results.toList ykL ygd yrp x=ymM x.1:=by kernel_rfl
theorem ySn:ConOk Tryz.prog 76 ⟨ygd,yrp,fun x=>ymM x.1⟩:=zkh (yNX) Tryz.func76 (by kernel_rfl) (by kernel_rfl) Tryz.ntmps76.symm (by decide) (fun x r h=>(yXf x).trans h)
def ylB (a0:dA):dA:=a0
theorem yVi (a0:dA) (hk:zi9 ygd (a0,())):ymM a0=(fun n=>some ((n,()),())) (ylB a0):=by
  have hb:a0.2.2.2.2.2.2.2.2.1.length * 32≤2 ^ 47:=hk.1.2.2.2.2.2.2.2.2.1.1
  have h1:=zkk (step:=ybE) a0.2.2.2.2.2.2.2.2.1 (0,[]) (fun i s=>yqz a0.2.2.2.2.2.2.2.2.1 a0.2.2.2.2.2.2.2.2.1.length i a0 ya2 s) (fun s x=>s++ [x]) (fun i s=>s.length=i) (fun s=> .inl (yMf a0 ya2 s)) (fun i s hi hs=>⟨by
      simp only [ybE,yqz,yqP,zjI (show (i:Int) < a0.2.2.2.2.2.2.2.2.1.length by omega),cond_true,wr (show -9223372036854775808≤(i:Int)+1 by omega) (by omega),Int.natCast_add,Int.natCast_one,Int.toNat_natCast,zkO hi,zjW,yj,zkV]
      rw [zkw.2 (show (s.length+ [a0.2.2.2.2.2.2.2.2.1.getD i (0,[])].length) * 32≤140737488355328 by simp only [List.length_cons,List.length_nil]; omega)]; rfl,by simp [hs]⟩) (fun s hs=>by simp only [ybE,yqz,yqP,zkm (Int.le_refl _),cond_false]) [] rfl 18446744073709551616 (by omega)
  rw [yux]at h1
  unfold ymM ylB
  rw [show ysd (yMn a0.2.2.2.2.2.2.2.2.1 a0.2.2.2.2.2.2.2.2.1.length a0 ya2 [])=_ from h1]; rfl
def yDL:Con:=⟨ygd,yrp,fun x=>(fun n=>some ((n,()),())) (ylB x.1)⟩
theorem yWh:ConOk Tryz.prog 76 yDL:=(ySn).mono (fun x r hk h=>(yVi x.1 hk).trans h)
end
section
def yFi:Code:=(Tryz.f84.body).getD .skip
def yFW:Env:=zki TT [(51,yyg)] []
theorem yLM:FrOk Tryz.prog ⟨yFW,15,fun _=>none⟩ yFi:=zkp yb yc ⟨yJK,trivial⟩
def yNl:Nat→Option Seg:=fun _=>none
abbrev yie:List Par:= [.rd tA]
abbrev yo3:List OT:= [⟨false,tB,.fz⟩]
def ysK (a0:dA):Option (ResD yo3×MutD yie) :=
  let r1:=yc2 a0
  bif r1 then
    bif (!a0.2.2.2.2.2.2.2.2.2.2.1) then
      some (((ltb a0.2.2.2.2.2.2.2.1 60000),()),())
    else
      some ((false,()),())
  else
    some ((false,()),())
theorem yUa (x:InD yie):zjH ⟨yFW,15,yNl⟩ Tryz.f84.results.toList yFi yie yo3 x=ysK x.1:=by kernel_rfl
theorem yO5:ConOk Tryz.prog 84 ⟨yie,yo3,fun x=>ysK x.1⟩:=zkh (yLM) Tryz.func84 (by kernel_rfl) (by kernel_rfl) Tryz.ntmps84.symm (by decide) (fun x r h=>(yUa x).trans h)
def yc4 (a0:dA):Bool :=
  let r1:=yc2 a0
  bif r1 then
    bif (!a0.2.2.2.2.2.2.2.2.2.2.1) then
      (ltb a0.2.2.2.2.2.2.2.1 60000)
    else
      false
  else
    false
def yBF:Con:=⟨yie,yo3,fun x=>(fun n=>some ((n,()),())) (yc4 x.1)⟩
theorem yR2 (a0:dA):ysK a0=(fun n=>some ((n,()),())) (yc4 a0):=zkS (p:=fun (n:Bool)=>((n,()),())) (zkx (p:=fun (n:Bool)=>((n,()),())) (zkx (p:=fun (n:Bool)=>((n,()),())) rfl rfl) rfl)
theorem ySP:ConOk Tryz.prog 84 yBF:=(yO5).mono (fun x r _ h=>(yR2 x.1).trans h)
end
section
def yeo:Code:=(Tryz.f257.body).getD .skip
def yia:Env:=zki TT [] []
theorem yId:FrOk Tryz.prog ⟨yia,19,fun _=>none⟩ yeo:=zkp yb yc trivial
def yvn:Nat→Option Seg:=fun _=>none
def yS:Shape:=⟨[(0,false,[.br tI]),(1,false,[.int .i64]),(7,false,[.int .i64]),(8,false,[.int .i64])],[],[]⟩
def ycl:Shape:=⟨[(0,false,[.br tI]),(1,false,[.int .i64]),(7,false,[.int .i64]),(8,false,[.ci .i64 0])],[],[]⟩
def yck:Shape:=⟨[],[],[]⟩
def ycm:Shape:=⟨[(4,false,[.int .i64])],[],[]⟩
abbrev yjI (v0:List Int) (v1:Int) (v2:Int) (v3:Int):(yS).X:=(((v0,()),(v1,()),(v2,()),(v3,()),()),(),())
abbrev yG6 (v0:List Int) (v1:Int) (v2:Int):(ycl).X:=(((v0,()),(v1,()),(v2,()),((),()),()),(),())
abbrev yG5  :(yck).X:=((),(),())
abbrev ytd (v0:Int):(ycm).X:=(((v0,()),()),(),())
def yjJ (v0:List Int) (v1:Int) (v2:Int) (v3:Int):Option ((yS).X ⊕ ((yck).X ⊕ (ycm).X)) :=
  bif (ltb v3 v2) then
    bif (inb v3 v0.length) then
      bif (v1==(nth v0 v3 0)) then
        some (.inr (.inr (((v3,()),()),(),())))
      else
        some (.inl (((v0,()),(v1,()),(v2,()),((IntKind.i64.wrap (v3+1)),()),()),(),()))
    else none
  else
    some (.inr (.inl ((),(),())))
def yac (x:(yS).X):=yjJ x.1.1.1 x.1.2.1.1 x.1.2.2.1.1 x.1.2.2.2.1.1
def ys8 (x:(ycl).X):(yS).X:=(((x.1.1.1,()),(x.1.2.1.1,()),(x.1.2.2.1.1,()),(0,()),()),(),())
def yve:Code:=(zdI yeo 64 52).getD .skip
theorem yHR:zdI yeo 64 13=some (.block 0 (.loop yve)):=by kernel_rfl
theorem yIo (x:(yS).X):zg7 ⟨yia,19,yvn⟩ 0 yve 52 yS yck ycm x=yac x:=by kernel_rfl
def ys9 (x:(ycl).X):Nat:=(fun (u0:List Int) (u1:Int) (u2:Int)=>18446744073709551616) x.1.1.1 x.1.2.1.1 x.1.2.2.1.1
def ykY (x:(ycl).X):Option ((yck).X ⊕ (ycm).X):=zr yac (ys9 x) (ys8 x)
def yti:Seg:=⟨ycl,yck,ycm,ykY⟩
def yvo:Nat→Option Seg:=fun q=>bif Nat.beq q 13 then some yti else yvn q
theorem yIe:FrOk Tryz.prog ⟨yia,19,yvo⟩ yeo:=(yId).loop (sg:=yti) yS ys8 (by decide) yHR yac ys9 (by decide) (fun _=>rfl) (fun x r _ h=>h) yIo
abbrev ycd:List Par:= [.rd tL,.rd tI]
abbrev yiT:List OT:= [⟨false,tI,.fz⟩]
def yf5 (a0:List Int) (a1:Int):Option (ResD yiT×MutD ycd) :=
  zjw (ykY (((a0,()),(a1,()),((a0.length:Int),()),((),()),()),(),())) (fun y0 =>
    some (((-1),()),())) (fun y0 =>
    some ((y0.1.1.1,()),()))
theorem yLs (x:InD ycd):zjH ⟨yia,19,yvo⟩ Tryz.f257.results.toList yeo ycd yiT x=yf5 x.1 x.2.1:=by kernel_rfl
theorem yIN:ConOk Tryz.prog 257 ⟨ycd,yiT,fun x=>yf5 x.1 x.2.1⟩:=zkh (yIe) Tryz.func257 (by kernel_rfl) (by kernel_rfl) Tryz.ntmps257.symm (by decide) (fun x r h=>(yLs x).trans h)
def yXO (l:List Int) (x:Int):Int:=bif l.any (· ==x) then ((l.takeWhile (· !=x)).length:Int) else -1
def yeN (a0:List Int) (a1:Int):Int:=yXO a0 a1
theorem y2b {A B α:Type} {step:A→Option (A ⊕ B)} (l:List α) (d:α) (f:Nat→A) (p:α→Bool) (b:Nat→B) (c:B)
    (h: ∀ i,i < l.length→step (f i)=some (bif p (l.getD i d) then .inr (b i) else .inl (f (i+1)))) (e:step (f l.length)=some (.inr c)) (fuel:Nat) (hf:l.length < fuel) :
    zr step fuel (f 0)=some (bif l.any p then b (l.takeWhile (fun x=> !p x)).length else c):=by
  have: ∀ (t q:List α) (fuel:Nat),q++t=l→t.length < fuel→zr step fuel (f q.length)=some (bif t.any p then b (q.length+(t.takeWhile (fun x=> !p x)).length) else c):=by
    intro t
    induction t with
    | nil =>
      intro q fuel hq hf
      obtain ⟨fuel,rfl⟩: ∃ m,fuel=m+1:=⟨fuel - 1,by omega⟩
      rw [List.append_nil]at hq
      subst hq
      simp only [zr,e,List.any_nil,cond_false]
    | cons x t ih =>
      intro q fuel hq hf
      obtain ⟨fuel,rfl⟩: ∃ m,fuel=m+1:=⟨fuel - 1,by omega⟩
      have hx:l.getD q.length d=x:=by
        subst hq
        rw [zcq (by simp)]; simp
      have hs:=h q.length (by rw [← hq]; simp)
      rw [hx]at hs
      cases hp:p x
      · rw [hp]at hs
        have:=ih (q++ [x]) fuel (by rw [← hq]; simp) (by simp at hf; omega)
        simp only [List.length_append,List.length_cons,List.length_nil]at this
        simp only [zr,hs,cond_false]
        simp only [List.any_cons,hp,Bool.false_or,List.takeWhile_cons,Bool.not_false,if_true,List.length_cons]
        rw [show q.length+((t.takeWhile (fun x=> !p x)).length+1)=q.length+(0+1)+(t.takeWhile (fun x=> !p x)).length by omega]
        exact this
      · rw [hp]at hs
        simp only [zr,hs,cond_true,List.any_cons,hp,Bool.true_or,List.takeWhile_cons,Bool.not_true,Bool.false_eq_true,if_false,List.length_nil,Nat.add_zero]
  have:=this l [] fuel rfl hf
  simpa using this
theorem yKq (a0:List Int) (a1:Int) (hk:zi9 ycd (a0,a1,())):yf5 a0 a1=(fun n=>some ((n,()),())) (yeN a0 a1):=by
  have hb:a0.length * 8≤2 ^ 47:=hk.1.1
  have h1:ykY (yG6 a0 a1 a0.length)=some (bif a0.any (· ==a1) then .inr (ytd ((a0.takeWhile (fun x=> !(x==a1))).length:Int)) else .inl yG5) :=
    y2b (step:=yac) a0 0 (fun i=>yjI a0 a1 a0.length i) (· ==a1) (fun i=> .inr (ytd (i:Int))) _ (fun i hi=>by
      simp only [yac,yjI,yjJ,zjI (show (i:Int) < a0.length by omega),cond_true,wr (show -9223372036854775808≤(i:Int)+1 by omega) (by omega),Int.natCast_add,Int.natCast_one,Int.toNat_natCast,zkO hi,zjW]
      rw [show (a1==a0.getD i 0)=(a0.getD i 0==a1) by rw [Bool.eq_iff_iff,beq_iff_eq,beq_iff_eq]; exact eq_comm]
      cases (a0.getD i 0==a1)<;>rfl) (by simp only [yac,yjI,yjJ,zkm (Int.le_refl _),cond_false]) _ (by show _ < 18446744073709551616; omega)
  unfold yf5 yeN yXO
  rw [h1]
  cases a0.any (· ==a1)<;>rfl
def ywi:Con:=⟨ycd,yiT,fun x=>(fun n=>some ((n,()),())) (yeN x.1 x.2.1)⟩
theorem yKv:ConOk Tryz.prog 257 ywi:=(yIN).mono (fun x r hk h=>(yKq x.1 x.2.1 hk).trans h)
end
section
def yvb:Code:=(Tryz.f229.body).getD .skip
def yvd:Env:=zki TT [(257,ywi)] []
theorem yEi:FrOk Tryz.prog ⟨yvd,9,fun _=>none⟩ yvb:=zkp yb yc ⟨yKv,trivial⟩
def yE6:Nat→Option Seg:=fun _=>none
abbrev yaz:List Par:= [.rd tL,.rd tI]
abbrev yfd:List OT:= [⟨false,tB,.fz⟩]
def ydF (a0:List Int) (a1:Int):Option (ResD yfd×MutD yaz) :=
  let r1:=yeN a0 a1
  some (((leb 0 r1),()),())
theorem yH8 (x:InD yaz):zjH ⟨yvd,9,yE6⟩ Tryz.f229.results.toList yvb yaz yfd x=ydF x.1 x.2.1:=by kernel_rfl
theorem yFb:ConOk Tryz.prog 229 ⟨yaz,yfd,fun x=>ydF x.1 x.2.1⟩:=zkh (yEi) Tryz.func229 (by kernel_rfl) (by kernel_rfl) Tryz.ntmps229.symm (by decide) (fun x r h=>(yH8 x).trans h)
def ycq (a0:List Int) (a1:Int):Bool:=a0.any (· ==a1)
theorem yG8 (a0:List Int) (a1:Int) (hk:zi9 yaz (a0,a1,())):ydF a0 a1=(fun n=>some ((n,()),())) (ycq a0 a1):=by
  unfold ydF ycq yeN yXO
  cases a0.any (· ==a1)
  · rfl
  · simp only [cond_true]
    rw [zk0 (show (0:Int)≤((a0.takeWhile (· !=a1)).length:Int) by omega)]
def yr9:Con:=⟨yaz,yfd,fun x=>(fun n=>some ((n,()),())) (ycq x.1 x.2.1)⟩
theorem yHa:ConOk Tryz.prog 229 yr9:=(yFb).mono (fun x r hk h=>(yG8 x.1 x.2.1 hk).trans h)
end
section
def ykK:Code:=(Tryz.f164.body).getD .skip
def yq7:Env:=zki TT [(132,yeb),(151,yam),(204,ypr),(229,yr9)] []
theorem yNS:FrOk Tryz.prog ⟨yq7,49,fun _=>none⟩ ykK:=zkp yb yc ⟨yhW,yca,yyn,yHa,trivial⟩
def yCU:Nat→Option Seg:=fun _=>none
def ybl:Shape:=⟨[(1,false,[.int .i64]),(6,false,[.br tI]),(34,false,[.br tW]),(35,false,[.int .i64]),(36,false,[.int .i64])],[],[]⟩
def yfJ:Shape:=⟨[(1,false,[.int .i64]),(6,false,[.br tI]),(34,false,[.br tW]),(35,false,[.int .i64]),(36,false,[.ci .i64 0])],[],[]⟩
def yfy:Shape:=⟨[(6,false,[.br tI])],[],[]⟩
def yj3:Shape:=⟨[],[],[]⟩
abbrev yqy (v0:Int) (v1:List Int) (v2:List dW) (v3:Int) (v4:Int):(ybl).X:=(((v0,()),(v1,()),(v2,()),(v3,()),(v4,()),()),(),())
abbrev yMm (v0:Int) (v1:List Int) (v2:List dW) (v3:Int):(yfJ).X:=(((v0,()),(v1,()),(v2,()),(v3,()),((),()),()),(),())
abbrev yz3 (v0:List Int):(yfy).X:=(((v0,()),()),(),())
def yqO (v0:Int) (v1:List Int) (v2:List dW) (v3:Int) (v4:Int):Option ((ybl).X ⊕ ((yfy).X ⊕ (yj3).X)) :=
  bif (ltb v4 v3) then
    bif (inb v4 v2.length) then
      bif ((nth v2 v4 (0,[])).1==v0) then
        some (.inl (((v0,()),((nth v2 v4 (0,[])).2,()),(v2,()),(v3,()),((IntKind.i64.wrap (v4+1)),()),()),(),()))
      else
        some (.inl (((v0,()),(v1,()),(v2,()),(v3,()),((IntKind.i64.wrap (v4+1)),()),()),(),()))
    else none
  else
    some (.inr (.inl (((v1,()),()),(),())))
def ybD (x:(ybl).X):=yqO x.1.1.1 x.1.2.1.1 x.1.2.2.1.1 x.1.2.2.2.1.1 x.1.2.2.2.2.1.1
def yzs (x:(yfJ).X):(ybl).X:=(((x.1.1.1,()),(x.1.2.1.1,()),(x.1.2.2.1.1,()),(x.1.2.2.2.1.1,()),(0,()),()),(),())
def yBi:Code:=(zdI ykK 64 244).getD .skip
theorem yNt:zdI ykK 64 61=some (.block 0 (.loop yBi)):=by kernel_rfl
theorem yPv (x:(ybl).X):zg7 ⟨yq7,49,yCU⟩ 0 yBi 244 ybl yfy yj3 x=ybD x:=by kernel_rfl
def yzL (x:(yfJ).X):Nat:=(fun (u0:Int) (u1:List Int) (u2:List dW) (u3:Int)=>18446744073709551616) x.1.1.1 x.1.2.1.1 x.1.2.2.1.1 x.1.2.2.2.1.1
def ysc (x:(yfJ).X):Option ((yfy).X ⊕ (yj3).X):=zr ybD (yzL x) (yzs x)
def yAb:Seg:=⟨yfJ,yfy,yj3,ysc⟩
def yCV:Nat→Option Seg:=fun q=>bif Nat.beq q 61 then some yAb else yCU q
theorem yNT:FrOk Tryz.prog ⟨yq7,49,yCV⟩ ykK:=(yNS).loop (sg:=yAb) ybl yzs (by decide) yNt ybD yzL (by decide) (fun _=>rfl) (fun x r _ h=>h) yPv
abbrev ygb:List Par:= [.rd tM,.rd tI]
abbrev yrm:List OT:= [⟨false,tL,(.ow .fz)⟩,⟨false,tB,.fz⟩]
def ymK (a0:dM) (a1:Int):Option (ResD yrm×MutD ygb) :=
  let r1:=yE a0
  bif (!(!r1)) then
    bif (!a0.2.2.1) then
      let r2:=yaY a0 a1
      bif (!(!r2)) then
        let r3:=ycq a0.2.2.2 a1
        bif r3 then
          some (([],false,()),())
        else
          bif (inb a1 a0.1.length) then
            zjw (ysc (((a1,()),((nth a0.1 a1 []),()),(a0.2.1,()),((a0.2.1.length:Int),()),((),()),()),(),())) (fun y3 =>
              let r5:=yj y3.1.1.1
              some ((r5,true,()),())) (fun y3 =>
              none)
          else none
      else
        some (([],false,()),())
    else
      some (([],false,()),())
  else
    some (([],false,()),())
theorem yXc (x:InD ygb):zjH ⟨yq7,49,yCV⟩ Tryz.f164.results.toList ykK ygb yrm x=ymK x.1 x.2.1:=by kernel_rfl
theorem ySk:ConOk Tryz.prog 164 ⟨ygb,yrm,fun x=>ymK x.1 x.2.1⟩:=zkh (yNT) Tryz.func164 (by kernel_rfl) (by kernel_rfl) Tryz.ntmps164.symm (by decide) (fun x r h=>(yXc x).trans h)
def yed (a0:dM) (a1:Int):List Int×Bool:=yk a0 a1
theorem yVf (a0:dM) (a1:Int) (hk:zi9 ygb (a0,a1,())):ymK a0 a1=(fun n=>some ((n.1,n.2,()),())) (yed a0 a1):=by
  have hb1:a0.1.length * 24≤2 ^ 47:=hk.1.1.1
  have hb2:a0.2.1.length * 32≤2 ^ 47:=hk.1.2.1.1
  have h1: ∀ s,ysc (yMm a1 s a0.2.1 a0.2.1.length)=some (.inl (yz3 (yIi a1 a0.2.1 s))):=fun s =>
    zkk (step:=ybD) a0.2.1 (0,[]) (fun i s=>yqy a1 s a0.2.1 a0.2.1.length i) (fun s w=>bif w.1==a1 then w.2 else s) (fun _ _=>True) (fun s=> .inl (yz3 s)) (fun i s hi _=>⟨by
      simp only [ybD,yqy,yqO,zjI (show (i:Int) < a0.2.1.length by omega),cond_true,wr (show -9223372036854775808≤(i:Int)+1 by omega) (by omega),Int.natCast_add,Int.natCast_one,Int.toNat_natCast,zkO hi,zjW]
      cases ((a0.2.1.getD i (0,[])).1==a1)<;>rfl,trivial⟩) (fun s _=>by simp only [ybD,yqy,yqO,zkm (Int.le_refl _),cond_false]) s trivial _ (by show _ < 18446744073709551616; omega)
  unfold ymK yed yk yNd yaY
  rw [yM,ytb (show a0.1.length≤1152921504606846976 by omega)]
  unfold yE ycq yj
  simp only [h1,zkJ]
  cases yp a0
  · rfl
  cases a0.2.2.1
  · cases inb a1 a0.1.length
    · rfl
    · cases a0.2.2.2.any (· ==a1)<;>rfl
  · rfl
def yur:Con:=⟨ygb,yrm,fun x=>(fun n=>some ((n.1,n.2,()),())) (yed x.1 x.2.1)⟩
theorem yGR:ConOk Tryz.prog 164 yur:=(ySk).mono (fun x r hk h=>(yVf x.1 x.2.1 hk).trans h)
end
end
end Go.Tf
