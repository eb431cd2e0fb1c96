/- Functions of the program, and what they come to. -/
import Derived.Test.YtcpidpnglekceaaGreatWordsBentF6
namespace Go.Tf
noncomputable section
open Go.Proofs
set_option synthInstance.maxHeartbeats 400000
set_option synthInstance.maxSize 10000
set_option linter.unusedVariables false
set_option linter.unusedSimpArgs false
set_option maxRecDepth 100000
section
def yvH:Code:=(Tryz.f259.body).getD .skip
def ywg:Env:=zki TT [(262,ymo)] []
theorem yBI:FrOk Tryz.prog ⟨ywg,17,fun _=>none⟩ yvH:=zkp ye yf ⟨yve,trivial⟩
def yCu:Nat→Option Seg:=fun _=>none
abbrev ydh:List Par:= [.rd tG,.rd tI]
abbrev yjP:List OT:= [⟨false,tI,.fz⟩]
def ygX (a0:dG) (a1:Int):Option (ResD yjP×MutD ydh) :=
  let r1:=ydp a0 a1
  bif (!r1) then
    some (((-1),()),())
  else
    bif (a0.1 !=0) then
      some (((IntKind.i64.wrap ((IntKind.i64.wrap (a0.1 - 1)) - (a1.tmod a0.1))),()),())
    else none
theorem yHF (x:InD ydh):zjH ⟨ywg,17,yCu⟩ Tryz.f259.results.toList yvH ydh yjP x=ygX x.1 x.2.1:=by kernel_rfl
theorem yDB:ConOk Tryz.prog 259 ⟨ydh,yjP,fun x=>ygX x.1 x.2.1⟩:=zkh (yBI) Tryz.func259 (by kernel_rfl) (by kernel_rfl) Tryz.ntmps259.symm (by decide) (fun x r h=>(yHF x).trans h)
def yb7 (a0:dG) (a1:Int):Int:=yp a0 a1
theorem yF2 (a0:dG) (a1:Int) (hk:zi9 ydh (a0,a1,())):ygX a0 a1=(fun n=>some ((n,()),())) (yb7 a0 a1):=by
  unfold ygX yb7
  rw [yDZ]
  cases hs:yS a0 a1
  · unfold yp; rw [hs]; rfl
  · have h1:=ycy.1 hs
    have h2:=yn.1 h1.1
    have h3:=yoP hs
    have h4:yp a0 a1=a0.1 - 1 - a1.tmod a0.1:=by unfold yp; rw [hs]; rfl
    rw [show (a0.1 !=0)=true from bne_iff_ne.2 (by omega),wr (show -9223372036854775808≤a0.1 - 1 by omega) (by omega),wr (show -9223372036854775808≤a0.1 - 1 - a1.tmod a0.1 by omega) (by omega),h4]; rfl
def ymk:Con:=⟨ydh,yjP,fun x=>(fun n=>some ((n,()),())) (yb7 x.1 x.2.1)⟩
theorem yva:ConOk Tryz.prog 259 ymk:=(yDB).mono (fun x r hk h=>(yF2 x.1 x.2.1 hk).trans h)
end
section
def yzG:Code:=(Tryz.f239.body).getD .skip
def yz7:Env:=zki TT [(115,yq),(259,ymk),(262,ymo)] []
theorem yEP:FrOk Tryz.prog ⟨yz7,28,fun _=>none⟩ yzG:=zkp ye yf ⟨yu,yva,yve,trivial⟩
def yG2:Nat→Option Seg:=fun _=>none
abbrev yff:List Par:= [.rd tG,.rd tI,.rd tI]
abbrev yns:List OT:= [⟨false,tI,.fz⟩]
def ykk (a0:dG) (a1:Int) (a2:Int):Option (ResD yns×MutD yff) :=
  let r1:=ydp a0 a1
  bif (!(!r1)) then
    let r2:=yb a2 0 (IntKind.i64.wrap (a0.1 - 2))
    bif (!r2) then
      some (((-1),()),())
    else
      let r3:=yb7 a0 a1
      bif (a0.1 !=0) then
        some ((((IntKind.i64.wrap ((IntKind.i64.wrap (r3+1))+a2)).tmod a0.1),()),())
      else none
  else
    some (((-1),()),())
theorem yM7 (x:InD yff):zjH ⟨yz7,28,yG2⟩ Tryz.f239.results.toList yzG yff yns x=ykk x.1 x.2.1 x.2.2.1:=by kernel_rfl
theorem yJj:ConOk Tryz.prog 239 ⟨yff,yns,fun x=>ykk x.1 x.2.1 x.2.2.1⟩:=zkh (yEP) Tryz.func239 (by kernel_rfl) (by kernel_rfl) Tryz.ntmps239.symm (by decide) (fun x r h=>(yM7 x).trans h)
def yjk (a0:dG) (a1 a2:Int):Int:=ycI a0 a1 a2
theorem yLc (a0:dG) (a1 a2:Int) (hk:zi9 yff (a0,a1,a2,())):ykk a0 a1 a2=(fun n=>some ((n,()),())) (yjk a0 a1 a2):=by
  unfold ykk yjk ycI yb7
  rw [yDZ]
  cases hs:yS a0 a1
  · rfl
  · have h1:=ycy.1 hs
    have h2:=yn.1 h1.1
    have h3:=yoP hs
    rw [yaL,wr (show -9223372036854775808≤a0.1 - 2 by omega) (by omega)]
    cases hi:(leb 0 a2&&leb a2 (a0.1 - 2))
    · rfl
    · rw [Bool.and_eq_true,zjQ,zjQ]at hi
      rw [show (a0.1 !=0)=true from bne_iff_ne.2 (by omega)]
      show some (((IntKind.i64.wrap (IntKind.i64.wrap (yp a0 a1+1)+a2)).tmod a0.1,()),())=some (((yp a0 a1+1+a2).tmod a0.1,()),())
      rw [wr (show -9223372036854775808≤yp a0 a1+1 by omega) (by omega),wr (show -9223372036854775808≤yp a0 a1+1+a2 by omega) (by omega)]
def ywR:Con:=⟨yff,yns,fun x=>(fun n=>some ((n,()),())) (yjk x.1 x.2.1 x.2.2.1)⟩
theorem yL7:ConOk Tryz.prog 239 ywR:=(yJj).mono (fun x r hk h=>(yLc x.1 x.2.1 x.2.2.1 hk).trans h)
end
section
def yiJ:Code:=(Tryz.f169.body).getD .skip
def ym8:Env:=zki TT [(167,yii),(239,ywR)] []
theorem yE7:FrOk Tryz.prog ⟨ym8,41,fun _=>none⟩ yiJ:=zkp ye yf ⟨yqe,yL7,trivial⟩
def yv2:Nat→Option Seg:=fun _=>none
def ybf:Shape:=⟨[(1,false,[.int .i64]),(2,false,[.ptr 0 0]),(6,false,[.at 800000000]),(7,false,[.bool]),(8,false,[.at 800000001]),(9,false,[.int .i64])],[(0,[.int .i64,.int .i64,.int .i64,.br tM,.int .i64,.int .i64,.int .i64,.int .i64,.int .i64,.br tW,.int .i64,.bool,.bool])],[(800000000,tI,.fz),(800000001,tI,.fz)]⟩
def yeL:Shape:=⟨[(1,false,[.int .i64]),(2,false,[.ptr 0 0]),(6,false,[.at 800000000]),(7,false,[.bool]),(8,false,[.at 800000001]),(9,false,[.ci .i64 0])],[(0,[.int .i64,.int .i64,.int .i64,.br tM,.int .i64,.int .i64,.int .i64,.int .i64,.int .i64,.br tW,.int .i64,.bool,.bool])],[(800000000,tI,.fz),(800000001,tI,.fz)]⟩
def yey:Shape:=⟨[(7,false,[.bool]),(8,false,[.at 800000000])],[],[(800000000,tI,.fz)]⟩
def yie:Shape:=⟨[],[],[]⟩
abbrev ydP (v0:Int) (v1:Bool) (v2:Int) (v3:dA) (v4:List Int) (v5:List Int):(ybf).X:=(((v0,()),((),()),((),()),(v1,()),((),()),(v2,()),()),((v3.1,v3.2.1.1,v3.2.1.2,v3.2.2.1,v3.2.2.2.1,v3.2.2.2.2.1,v3.2.2.2.2.2.1,v3.2.2.2.2.2.2.1,v3.2.2.2.2.2.2.2.1,v3.2.2.2.2.2.2.2.2.1,v3.2.2.2.2.2.2.2.2.2.1,v3.2.2.2.2.2.2.2.2.2.2.1,v3.2.2.2.2.2.2.2.2.2.2.2,()),()),(v4,v5,()))
abbrev yti (v0:Int) (v1:Bool) (v2:dA) (v3:List Int) (v4:List Int):(yeL).X:=(((v0,()),((),()),((),()),(v1,()),((),()),((),()),()),((v2.1,v2.2.1.1,v2.2.1.2,v2.2.2.1,v2.2.2.2.1,v2.2.2.2.2.1,v2.2.2.2.2.2.1,v2.2.2.2.2.2.2.1,v2.2.2.2.2.2.2.2.1,v2.2.2.2.2.2.2.2.2.1,v2.2.2.2.2.2.2.2.2.2.1,v2.2.2.2.2.2.2.2.2.2.2.1,v2.2.2.2.2.2.2.2.2.2.2.2,()),()),(v3,v4,()))
abbrev ymz (v0:Bool) (v1:List Int):(yey).X:=(((v0,()),((),()),()),(),(v1,()))
def yg3 (v0:Int) (v1:Bool) (v2:Int) (v3:Int) (v4:Int) (v5:Int) (v6:List dM) (v7:Int) (v8:Int) (v9:Int) (v10:Int) (v11:Int) (v12:List dW) (v13:Int) (v14:Bool) (v15:Bool) (v16:List Int) (v17:List Int):Option ((ybf).X ⊕ ((yey).X ⊕ (yie).X)) :=
  bif (ltb v2 (IntKind.i64.wrap (v4 - 1))) then
    bif v1 then
      let r3:=yjk (v4,v5) v0 v2
      bif (inb r3 v16.length) then
        bif (zj4 v17.length ([(nth v16 r3 0)]:List Int).length 8) then
          some (.inl (((v0,()),((),()),((),()),(v1,()),((),()),((IntKind.i64.wrap (v2+1)),()),()),((v3,v4,v5,v6,v7,v8,v9,v10,v11,v12,v13,v14,v15,()),()),(v16,(v17++([(nth v16 r3 0)]:List Int)),())))
        else none
      else none
    else
      some (.inr (.inl (((v1,()),((),()),()),(),(v17,()))))
  else
    some (.inr (.inl (((v1,()),((),()),()),(),(v17,()))))
def yae (x:(ybf).X):=yg3 x.1.1.1 x.1.2.2.2.1.1 x.1.2.2.2.2.2.1.1 x.2.1.1.1 x.2.1.1.2.1 x.2.1.1.2.2.1 x.2.1.1.2.2.2.1 x.2.1.1.2.2.2.2.1 x.2.1.1.2.2.2.2.2.1 x.2.1.1.2.2.2.2.2.2.1 x.2.1.1.2.2.2.2.2.2.2.1 x.2.1.1.2.2.2.2.2.2.2.2.1 x.2.1.1.2.2.2.2.2.2.2.2.2.1 x.2.1.1.2.2.2.2.2.2.2.2.2.2.1 x.2.1.1.2.2.2.2.2.2.2.2.2.2.2.1 x.2.1.1.2.2.2.2.2.2.2.2.2.2.2.2.1 x.2.2.1 x.2.2.2.1
def ysX (x:(yeL).X):(ybf).X:=(((x.1.1.1,()),((),()),((),()),(x.1.2.2.2.1.1,()),((),()),(0,()),()),((x.2.1.1.1,x.2.1.1.2.1,x.2.1.1.2.2.1,x.2.1.1.2.2.2.1,x.2.1.1.2.2.2.2.1,x.2.1.1.2.2.2.2.2.1,x.2.1.1.2.2.2.2.2.2.1,x.2.1.1.2.2.2.2.2.2.2.1,x.2.1.1.2.2.2.2.2.2.2.2.1,x.2.1.1.2.2.2.2.2.2.2.2.2.1,x.2.1.1.2.2.2.2.2.2.2.2.2.2.1,x.2.1.1.2.2.2.2.2.2.2.2.2.2.2.1,x.2.1.1.2.2.2.2.2.2.2.2.2.2.2.2.1,()),()),(x.2.2.1,x.2.2.2.1,()))
def yua:Code:=(zdI yiJ 64 244).getD .skip
theorem yEl:zdI yiJ 64 61=some (.block 0 (.loop yua)):=by kernel_rfl
theorem yGI (x:(ybf).X):zg7 ⟨ym8,41,yv2⟩ 0 yua 244 ybf yey yie x=yae x:=by kernel_rfl
def yta (x:(yeL).X):Nat:=(fun (u0:Int) (u1:Bool) (u2:Int) (u3:Int) (u4:Int) (u5:List dM) (u6:Int) (u7:Int) (u8:Int) (u9:Int) (u10:Int) (u11:List dW) (u12:Int) (u13:Bool) (u14:Bool) (u15:List Int) (u16:List Int)=>18446744073709551616) x.1.1.1 x.1.2.2.2.1.1 x.2.1.1.1 x.2.1.1.2.1 x.2.1.1.2.2.1 x.2.1.1.2.2.2.1 x.2.1.1.2.2.2.2.1 x.2.1.1.2.2.2.2.2.1 x.2.1.1.2.2.2.2.2.2.1 x.2.1.1.2.2.2.2.2.2.2.1 x.2.1.1.2.2.2.2.2.2.2.2.1 x.2.1.1.2.2.2.2.2.2.2.2.2.1 x.2.1.1.2.2.2.2.2.2.2.2.2.2.1 x.2.1.1.2.2.2.2.2.2.2.2.2.2.2.1 x.2.1.1.2.2.2.2.2.2.2.2.2.2.2.2.1 x.2.2.1 x.2.2.2.1
def yh3 (x:(yeL).X):Option ((yey).X ⊕ (yie).X):=zr yae (yta x) (ysX x)
def yts:Seg:=⟨yeL,yey,yie,yh3⟩
def yv3:Nat→Option Seg:=fun q=>bif Nat.beq q 61 then some yts else yv2 q
theorem yE8:FrOk Tryz.prog ⟨ym8,41,yv3⟩ yiJ:=(yE7).loop (sg:=yts) ybf ysX (by decide) yEl yae yta (by decide) (fun _=>rfl) (fun x r _ h=>h) yGI
abbrev ydu:List Par:= [.rd tA,.rd tI]
abbrev yi8:List OT:= [⟨false,tL,(.ow .fz)⟩,⟨false,tB,.fz⟩]
def ykq (a0:dA) (a1:Int):Option (ResD yi8×MutD ydu) :=
  bnd (yd9 a0 a1) fun r1 =>
  zjw (yh3 (((a1,()),((),()),((),()),(r1.1.2.1,()),((),()),((),()),()),((a0.1,a0.2.1.1,a0.2.1.2,a0.2.2.1,a0.2.2.2.1,a0.2.2.2.2.1,a0.2.2.2.2.2.1,a0.2.2.2.2.2.2.1,a0.2.2.2.2.2.2.2.1,a0.2.2.2.2.2.2.2.2.1,a0.2.2.2.2.2.2.2.2.2.1,a0.2.2.2.2.2.2.2.2.2.2.1,a0.2.2.2.2.2.2.2.2.2.2.2,()),()),(r1.1.1,([]:List Int),()))) (fun y3 =>
    some ((y3.2.2.1,y3.1.1.1,()),())) (fun y3 =>
    none)
theorem yNk (x:InD ydu):zjH ⟨ym8,41,yv3⟩ Tryz.f169.results.toList yiJ ydu yi8 x=ykq x.1 x.2.1:=by kernel_rfl
theorem yJw:ConOk Tryz.prog 169 ⟨ydu,yi8,fun x=>ykq x.1 x.2.1⟩:=zkh (yE8) Tryz.func169 (by kernel_rfl) (by kernel_rfl) Tryz.ntmps169.symm (by decide) (fun x r h=>(yNk x).trans h)
def ynN (a0:dA) (a1:Int):List Int×Bool:=yru a0 a1
def ysn (a0:dA) (a1:Int):Bool:=yS a0.2.1 a1
theorem yLl (a0:dA) (a1:Int) (hk:zi9 ydu (a0,a1,())) (hq:ysn a0 a1=true):ykq a0 a1=(fun n=>some ((n.1,n.2,()),())) (ynN a0 a1):=by
  have hs:yS a0.2.1 a1=true:=hq
  have hg:=yn.1 (ycy.1 hs).1
  unfold ykq ynN yru
  rw [yqf a0 a1 (ycy.1 hs).1,yd8]
  simp only [zky]
  cases hw:(yH a0 a1).2
  · have h1:yh3 (yti a1 false a0 (yH a0 a1).1 [])=some (.inl (ymz false [])) :=
      zjs (step:=yae) (fun i=>ydP a1 false i a0 (yH a0 a1).1 []) 0 _ (fun i hi=>absurd hi (Nat.not_lt_zero _)) (by
        simp only [yae,ydP,yg3,cond_false]
        cases ltb ((0:Nat):Int) (IntKind.i64.wrap (a0.2.1.1 - 1))<;>rfl) _ (by show _ < 18446744073709551616; omega)
    rw [h1]; rfl
  · have hL:=yCk hw
    have h1:yh3 (yti a1 true a0 (yH a0 a1).1 [])=some (.inl (ymz true ((List.range (a0.2.1.1 - 1).toNat).foldl (fun l (i:Nat)=>l++ [nth (yH a0 a1).1 (ycI a0.2.1 a1 i) 0]) []))) :=
      zks (step:=yae) (a0.2.1.1 - 1).toNat (fun i s=>ydP a1 true i a0 (yH a0 a1).1 s) (fun l (i:Nat)=>l++ [nth (yH a0 a1).1 (ycI a0.2.1 a1 i) 0]) (fun i s=>s.length=i) (fun s=> .inl (ymz true s)) (fun i s hi hs2=>⟨by
        have hd:=yPs hs (show (0:Int)≤i by omega) (show (i:Int)≤a0.2.1.1 - 2 by omega)
        simp only [yae,ydP,yg3,wr (show -9223372036854775808≤a0.2.1.1 - 1 by omega) (by omega),zjI (show (i:Int) < a0.2.1.1 - 1 by omega),cond_true,wr (show -9223372036854775808≤(i:Int)+1 by omega) (by omega),Int.natCast_add,Int.natCast_one,Int.toNat_natCast,zkV,yjk,zjP.2 (show 0≤ycI a0.2.1 a1 i∧ycI a0.2.1 a1 i < (yH a0 a1).1.length by omega)]
        rw [zkw.2 (show (s.length+ [nth (yH a0 a1).1 (ycI a0.2.1 a1 i) 0].length) * 8≤140737488355328 by simp only [List.length_cons,List.length_nil]; omega)]; rfl,by simp [hs2]⟩) (fun s hs2=>by simp only [yae,ydP,yg3,wr (show -9223372036854775808≤a0.2.1.1 - 1 by omega) (by omega),zkm (show a0.2.1.1 - 1≤((a0.2.1.1 - 1).toNat:Int) by omega),cond_false]) [] rfl _ (by show _ < 18446744073709551616; omega)
    rw [h1,yp3]; rfl
def yjp (a0:dA) (a1:Int):Option (ResD yi8×MutD ydu):=bif ysn a0 a1 then (fun n=>some ((n.1,n.2,()),())) (ynN a0 a1) else none
theorem yyV (a0:dA) (a1:Int) (h:ysn a0 a1=true):yjp a0 a1=(fun n=>some ((n.1,n.2,()),())) (ynN a0 a1):=by unfold yjp; rw [h]; rfl
def ypZ:Con:=⟨ydu,yi8,fun x=>yjp x.1 x.2.1⟩
theorem yyT:ConOk Tryz.prog 169 ypZ:=(yJw).mono (fun x r hk h=>zkW h (fun hq=>yLl x.1 x.2.1 hk hq))
end
section
def ymO:Code:=(Tryz.f230.body).getD .skip
def yrp:Env:=zki TT [] []
theorem yKS:FrOk Tryz.prog ⟨yrp,22,fun _=>none⟩ ymO:=zkp ye yf trivial
def yzT:Nat→Option Seg:=fun _=>none
def ycT:Shape:=⟨[(1,false,[.int .i64]),(2,false,[.ptr 0 0]),(5,false,[.int .i64])],[(0,[.int .i64,.int .i64,.int .i64,.br tM,.int .i64,.int .i64,.int .i64,.int .i64,.int .i64,.br tW,.int .i64,.bool,.bool])],[]⟩
def yhy:Shape:=⟨[(1,false,[.int .i64]),(2,false,[.ptr 0 0]),(5,false,[.ci .i64 0])],[(0,[.int .i64,.int .i64,.int .i64,.br tM,.int .i64,.int .i64,.int .i64,.int .i64,.int .i64,.br tW,.int .i64,.bool,.bool])],[]⟩
def yhw:Shape:=⟨[],[],[]⟩
def yhH:Shape:=⟨[(4,false,[.int .i64])],[],[]⟩
abbrev yp8 (v0:Int) (v1:Int) (v2:dA):(ycT).X:=(((v0,()),((),()),(v1,()),()),((v2.1,v2.2.1.1,v2.2.1.2,v2.2.2.1,v2.2.2.2.1,v2.2.2.2.2.1,v2.2.2.2.2.2.1,v2.2.2.2.2.2.2.1,v2.2.2.2.2.2.2.2.1,v2.2.2.2.2.2.2.2.2.1,v2.2.2.2.2.2.2.2.2.2.1,v2.2.2.2.2.2.2.2.2.2.2.1,v2.2.2.2.2.2.2.2.2.2.2.2,()),()),())
abbrev yIL (v0:Int) (v1:dA):(yhy).X:=(((v0,()),((),()),((),()),()),((v1.1,v1.2.1.1,v1.2.1.2,v1.2.2.1,v1.2.2.2.1,v1.2.2.2.2.1,v1.2.2.2.2.2.1,v1.2.2.2.2.2.2.1,v1.2.2.2.2.2.2.2.1,v1.2.2.2.2.2.2.2.2.1,v1.2.2.2.2.2.2.2.2.2.1,v1.2.2.2.2.2.2.2.2.2.2.1,v1.2.2.2.2.2.2.2.2.2.2.2,()),()),())
abbrev yIJ  :(yhw).X:=((),(),())
abbrev yxb (v0:Int):(yhH).X:=(((v0,()),()),(),())
def yqA (v0:Int) (v1:Int) (v2:Int) (v3:Int) (v4:Int) (v5:List dM) (v6:Int) (v7:Int) (v8:Int) (v9:Int) (v10:Int) (v11:List dW) (v12:Int) (v13:Bool) (v14:Bool):Option ((ycT).X ⊕ ((yhw).X ⊕ (yhH).X)) :=
  bif (ltb v1 (v11.length:Int)) then
    bif (inb v1 v11.length) then
      bif ((nth v11 v1 (0,[])).1==v0) then
        some (.inr (.inr (((v1,()),()),(),())))
      else
        some (.inl (((v0,()),((),()),((IntKind.i64.wrap (v1+1)),()),()),((v2,v3,v4,v5,v6,v7,v8,v9,v10,v11,v12,v13,v14,()),()),()))
    else none
  else
    some (.inr (.inl ((),(),())))
def ycX (x:(ycT).X):=yqA x.1.1.1 x.1.2.2.1.1 x.2.1.1.1 x.2.1.1.2.1 x.2.1.1.2.2.1 x.2.1.1.2.2.2.1 x.2.1.1.2.2.2.2.1 x.2.1.1.2.2.2.2.2.1 x.2.1.1.2.2.2.2.2.2.1 x.2.1.1.2.2.2.2.2.2.2.1 x.2.1.1.2.2.2.2.2.2.2.2.1 x.2.1.1.2.2.2.2.2.2.2.2.2.1 x.2.1.1.2.2.2.2.2.2.2.2.2.2.1 x.2.1.1.2.2.2.2.2.2.2.2.2.2.2.1 x.2.1.1.2.2.2.2.2.2.2.2.2.2.2.2.1
def yw7 (x:(yhy).X):(ycT).X:=(((x.1.1.1,()),((),()),(0,()),()),((x.2.1.1.1,x.2.1.1.2.1,x.2.1.1.2.2.1,x.2.1.1.2.2.2.1,x.2.1.1.2.2.2.2.1,x.2.1.1.2.2.2.2.2.1,x.2.1.1.2.2.2.2.2.2.1,x.2.1.1.2.2.2.2.2.2.2.1,x.2.1.1.2.2.2.2.2.2.2.2.1,x.2.1.1.2.2.2.2.2.2.2.2.2.1,x.2.1.1.2.2.2.2.2.2.2.2.2.2.1,x.2.1.1.2.2.2.2.2.2.2.2.2.2.2.1,x.2.1.1.2.2.2.2.2.2.2.2.2.2.2.2.1,()),()),())
def yyl:Code:=(zdI ymO 64 52).getD .skip
theorem yKy:zdI ymO 64 13=some (.block 0 (.loop yyl)):=by kernel_rfl
theorem yMo (x:(ycT).X):zg7 ⟨yrp,22,yzT⟩ 0 yyl 52 ycT yhw yhH x=ycX x:=by kernel_rfl
def yw9 (x:(yhy).X):Nat:=(fun (u0:Int) (u1:Int) (u2:Int) (u3:Int) (u4:List dM) (u5:Int) (u6:Int) (u7:Int) (u8:Int) (u9:Int) (u10:List dW) (u11:Int) (u12:Bool) (u13:Bool)=>18446744073709551616) x.1.1.1 x.2.1.1.1 x.2.1.1.2.1 x.2.1.1.2.2.1 x.2.1.1.2.2.2.1 x.2.1.1.2.2.2.2.1 x.2.1.1.2.2.2.2.2.1 x.2.1.1.2.2.2.2.2.2.1 x.2.1.1.2.2.2.2.2.2.2.1 x.2.1.1.2.2.2.2.2.2.2.2.1 x.2.1.1.2.2.2.2.2.2.2.2.2.1 x.2.1.1.2.2.2.2.2.2.2.2.2.2.1 x.2.1.1.2.2.2.2.2.2.2.2.2.2.2.1 x.2.1.1.2.2.2.2.2.2.2.2.2.2.2.2.1
def yqV (x:(yhy).X):Option ((yhw).X ⊕ (yhH).X):=zr ycX (yw9 x) (yw7 x)
def yxi:Seg:=⟨yhy,yhw,yhH,yqV⟩
def yzU:Nat→Option Seg:=fun q=>bif Nat.beq q 13 then some yxi else yzT q
theorem yKT:FrOk Tryz.prog ⟨yrp,22,yzU⟩ ymO:=(yKS).loop (sg:=yxi) ycT yw7 (by decide) yKy ycX yw9 (by decide) (fun _=>rfl) (fun x r _ h=>h) yMo
abbrev yjv:List Par:= [.rd tA,.rd tI]
abbrev yrs:List OT:= [⟨false,tI,.fz⟩]
def ynS (a0:dA) (a1:Int):Option (ResD yrs×MutD yjv) :=
  zjw (yqV (((a1,()),((),()),((),()),()),((a0.1,a0.2.1.1,a0.2.1.2,a0.2.2.1,a0.2.2.2.1,a0.2.2.2.2.1,a0.2.2.2.2.2.1,a0.2.2.2.2.2.2.1,a0.2.2.2.2.2.2.2.1,a0.2.2.2.2.2.2.2.2.1,a0.2.2.2.2.2.2.2.2.2.1,a0.2.2.2.2.2.2.2.2.2.2.1,a0.2.2.2.2.2.2.2.2.2.2.2,()),()),())) (fun y0 =>
    some (((-1),()),())) (fun y0 =>
    some ((y0.1.1.1,()),()))
theorem yPg (x:InD yjv):zjH ⟨yrp,22,yzU⟩ Tryz.f230.results.toList ymO yjv yrs x=ynS x.1 x.2.1:=by kernel_rfl
theorem yNT:ConOk Tryz.prog 230 ⟨yjv,yrs,fun x=>ynS x.1 x.2.1⟩:=zkh (yKT) Tryz.func230 (by kernel_rfl) (by kernel_rfl) Tryz.ntmps230.symm (by decide) (fun x r h=>(yPg x).trans h)
def ygC (a0:dA) (a1:Int):Int:=yT a0.2.2.2.2.2.2.2.2.1 a1
theorem yOY (a0:dA) (a1:Int) (hk:zi9 yjv (a0,a1,())):ynS a0 a1=(fun n=>some ((n,()),())) (ygC a0 a1):=by
  have hb:a0.2.2.2.2.2.2.2.2.1.length * 32≤2 ^ 47:=hk.1.2.2.2.2.2.2.2.2.1.1
  have h1:yqV (yIL a1 a0)=some (bif leb 0 (yT a0.2.2.2.2.2.2.2.2.1 a1) then .inr (yxb (yT a0.2.2.2.2.2.2.2.2.1 a1)) else .inl yIJ) :=
    yP7 (step:=ycX) a0.2.2.2.2.2.2.2.2.1 (0,[]) (fun i=>yp8 a1 i a0) (fun e:dW=>e.1==a1) (fun i=> .inr (yxb i)) _ (fun i hi=>by
      simp only [ycX,yp8,yqA,zjI (show (i:Int) < a0.2.2.2.2.2.2.2.2.1.length by omega),cond_true,wr (show -9223372036854775808≤(i:Int)+1 by omega) (by omega),Int.natCast_add,Int.natCast_one,Int.toNat_natCast,zkO hi,zjW]
      cases ((a0.2.2.2.2.2.2.2.2.1.getD i (0,[])).1==a1)<;>rfl) (by simp only [ycX,yp8,yqA,zkm (Int.le_refl _),cond_false]) _ (by show _ < 18446744073709551616; omega)
  unfold ynS ygC
  rw [h1]
  cases h:leb 0 (yT a0.2.2.2.2.2.2.2.2.1 a1)
  · rw [show yT a0.2.2.2.2.2.2.2.2.1 a1= -1 from yQS h]; rfl
  · rfl
def ysj:Con:=⟨yjv,yrs,fun x=>(fun n=>some ((n,()),())) (ygC x.1 x.2.1)⟩
theorem yCe:ConOk Tryz.prog 230 ysj:=(yNT).mono (fun x r hk h=>(yOY x.1 x.2.1 hk).trans h)
end
section
def yvN:Code:=(Tryz.f153.body).getD .skip
def ywm:Env:=zki TT [(169,ypZ),(230,ysj)] []
theorem yBQ:FrOk Tryz.prog ⟨ywm,28,fun _=>none⟩ yvN:=zkp ye yf ⟨yyT,yCe,trivial⟩
def yCA:Nat→Option Seg:=fun _=>none
abbrev ybM:List Par:= [.rd tA,.rd tI]
abbrev ygd:List OT:= [⟨false,tL,(.ow .fz)⟩,⟨false,tB,.fz⟩]
def yg2 (a0:dA) (a1:Int):Option (ResD ygd×MutD ybM) :=
  let r1:=ygC a0 a1
  bif (leb 0 r1) then
    bif (inb r1 a0.2.2.2.2.2.2.2.2.1.length) then
      bif (zj4 ([]:List Int).length ((nth a0.2.2.2.2.2.2.2.2.1 r1 (0,[])).2).length 8) then
        some (((([]:List Int)++((nth a0.2.2.2.2.2.2.2.2.1 r1 (0,[])).2)),true,()),())
      else none
    else none
  else
    bif a0.2.2.2.2.2.2.2.2.2.2.2 then
      some ((([]:List Int),false,()),())
    else
      bnd (yjp a0 a1) fun r2 =>
      some ((r2.1.1,r2.1.2.1,()),())
theorem yHM (x:InD ybM):zjH ⟨ywm,28,yCA⟩ Tryz.f153.results.toList yvN ybM ygd x=yg2 x.1 x.2.1:=by kernel_rfl
theorem yDI:ConOk Tryz.prog 153 ⟨ybM,ygd,fun x=>yg2 x.1 x.2.1⟩:=zkh (yBQ) Tryz.func153 (by kernel_rfl) (by kernel_rfl) Tryz.ntmps153.symm (by decide) (fun x r h=>(yHM x).trans h)
def ygv (a0:dA) (a1:Int):List Int×Bool:=ybz a0 a1
def yqg (a0:dA) (a1:Int):Bool:=yS a0.2.1 a1
theorem yF9 (a0:dA) (a1:Int) (hk:zi9 ybM (a0,a1,())) (hq:yqg a0 a1=true):yg2 a0 a1=(fun n=>some ((n.1,n.2,()),())) (ygv a0 a1):=by
  unfold yg2 ygv ybz ygC
  rw [yyV a0 a1 hq]
  simp only [List.nil_append]
  cases h:leb 0 (yT a0.2.2.2.2.2.2.2.2.1 a1)
  · cases a0.2.2.2.2.2.2.2.2.2.2.2<;>rfl
  · have h1:=(yuZ (d:=((0,[]):dW)) h).1
    have h2:(nth a0.2.2.2.2.2.2.2.2.1 (yT a0.2.2.2.2.2.2.2.2.1 a1) (0,[])).2.length * 8≤2 ^ 47:=yyP (P:=fun x:dW=>x.2.length * 8≤2 ^ 47) h1 (fun x hx=>(hk.1.2.2.2.2.2.2.2.2.1.2 x hx).2.1)
    rw [show inb (yT a0.2.2.2.2.2.2.2.2.1 a1) a0.2.2.2.2.2.2.2.2.1.length=true from h1,zkw.2 (show (([]:List Int).length+(nth a0.2.2.2.2.2.2.2.2.1 (yT a0.2.2.2.2.2.2.2.2.1 a1) (0,[])).2.length) * 8≤140737488355328 by rw [List.length_nil]; omega)]; rfl
def ykb (a0:dA) (a1:Int):Option (ResD ygd×MutD ybM):=bif yqg a0 a1 then (fun n=>some ((n.1,n.2,()),())) (ygv a0 a1) else none
theorem yGy (a0:dA) (a1:Int) (h:yqg a0 a1=true):ykb a0 a1=(fun n=>some ((n.1,n.2,()),())) (ygv a0 a1):=by unfold ykb; rw [h]; rfl
def ysN:Con:=⟨ybM,ygd,fun x=>ykb x.1 x.2.1⟩
theorem yGw:ConOk Tryz.prog 153 ysN:=(yDI).mono (fun x r hk h=>zkW h (fun hq=>yF9 x.1 x.2.1 hk hq))
end
section
def yvJ:Code:=(Tryz.f154.body).getD .skip
def ywi:Env:=zki TT [(115,yq),(173,yj4)] []
theorem yBM:FrOk Tryz.prog ⟨ywi,16,fun _=>none⟩ yvJ:=zkp ye yf ⟨yu,yq6,trivial⟩
def yCw:Nat→Option Seg:=fun _=>none
abbrev ydj:List Par:= [.rd tG,.rd tI]
abbrev yjS:List OT:= [⟨false,tI,.fz⟩]
def ygZ (a0:dG) (a1:Int):Option (ResD yjS×MutD ydj) :=
  let r1:=yr a0
  let r2:=yb a1 0 (IntKind.i64.wrap (r1 - 1))
  bif (!r2) then
    some (((-1),()),())
  else
    bif ((IntKind.i64.wrap (a0.1 - 1)) !=0) then
      some (((IntKind.i64.wrap (a1.tdiv (IntKind.i64.wrap (a0.1 - 1)))),()),())
    else none
theorem yHI (x:InD ydj):zjH ⟨ywi,16,yCw⟩ Tryz.f154.results.toList yvJ ydj yjS x=ygZ x.1 x.2.1:=by kernel_rfl
theorem yDE:ConOk Tryz.prog 154 ⟨ydj,yjS,fun x=>ygZ x.1 x.2.1⟩:=zkh (yBM) Tryz.func154 (by kernel_rfl) (by kernel_rfl) Tryz.ntmps154.symm (by decide) (fun x r h=>(yHI x).trans h)
def ygu (a0:dG) (a1:Int):Int:=yb9 a0 a1
theorem yF5 (a0:dG) (a1:Int) (hk:zi9 ydj (a0,a1,())):ygZ a0 a1=(fun n=>some ((n,()),())) (ygu a0 a1):=by
  unfold ygZ ygu yb9
  simp only [yPW]
  cases hb:yih a0 a1
  · rfl
  · obtain ⟨h1,h2,h3⟩:=ywo hb
    have h4:=yn.1 h1
    rw [wr (show -9223372036854775808≤a0.1 - 1 by omega) (by omega),show (a0.1 - 1 !=0)=true from bne_iff_ne.2 (by omega),wr (by omega) (by omega)]; rfl
def ysL:Con:=⟨ydj,yjS,fun x=>(fun n=>some ((n,()),())) (ygu x.1 x.2.1)⟩
theorem yGu:ConOk Tryz.prog 154 ysL:=(yDE).mono (fun x r hk h=>(yF5 x.1 x.2.1 hk).trans h)
end
end
end Go.Tf
