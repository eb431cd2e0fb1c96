/- Functions of the program, and what they come to. -/
import Derived.Test.YtfpjmijaiekbgaaGreatExactRecoverF11
namespace Go.Tf
noncomputable section
open Go.Proofs
set_option synthInstance.maxHeartbeats 400000
set_option synthInstance.maxSize 10000
set_option linter.unusedVariables false
set_option linter.unusedSimpArgs false
set_option maxRecDepth 100000
section
def ykT:Code:=(Tryz.f188.body).getD .skip
def yrg:Env:=zki TT [(98,yu),(147,yff),(218,ygp)] [(45056,(.pr .fz .fz))]
theorem yOj:FrOk Tryz.prog ⟨yrg,51,fun _=>none⟩ ykT:=zkp yb yc ⟨yF,ylM,ynS,trivial⟩
def yDe:Nat→Option Seg:=fun _=>none
def yaT:Shape:=⟨[(1,false,[.int .i64]),(4,false,[.ptr 64 0]),(5,false,[.ptr 4224 0]),(6,false,[.int .i64])],[(64,[.nil,.nil,.bool,.nil]),(4224,[.at 800000000,.at 800000001,.bool,.at 800000002])],[(800000000,tL,.fz),(800000001,tW,(.pr .fz .fz)),(800000002,tI,.fz)]⟩
def yeF:Shape:=⟨[(1,false,[.int .i64]),(4,false,[.ptr 64 0]),(5,false,[.ptr 4224 0]),(6,false,[.int .i64])],[(64,[.nil,.nil,.bool,.nil]),(4224,[.at 800000000,.at 800000001,.bool,.at 800000002])],[(800000000,tL,.fz),(800000001,tW,(.pr .fz .fz)),(800000002,tI,.fz)]⟩
def yex:Shape:=⟨[(4,false,[.ptr 64 0]),(5,false,[.ptr 4224 0])],[(64,[.nil,.nil,.bool,.nil]),(4224,[.at 800000000,.at 800000001,.bool,.at 800000002])],[(800000000,tL,.fz),(800000001,tW,(.pr .fz .fz)),(800000002,tI,.fz)]⟩
def yi9:Shape:=⟨[],[],[]⟩
abbrev yod (v0:Int) (v1:Int) (v2:dM) (v3:dM):(yaT).X:=(((v0,()),((),()),((),()),(v1,()),()),(((),(),v2.2.2.1,(),()),((),(),v3.2.2.1,(),()),()),(v3.1,v3.2.1,v3.2.2.2,()))
abbrev yKo (v0:Int) (v1:Int) (v2:dM) (v3:dM):(yeF).X:=(((v0,()),((),()),((),()),(v1,()),()),(((),(),v2.2.2.1,(),()),((),(),v3.2.2.1,(),()),()),(v3.1,v3.2.1,v3.2.2.2,()))
abbrev yxT (v0:dM) (v1:dM):(yex).X:=((((),()),((),()),()),(((),(),v0.2.2.1,(),()),((),(),v1.2.2.1,(),()),()),(v1.1,v1.2.1,v1.2.2.2,()))
def yoy (v0:Int) (v1:Int) (v2:Bool) (v3:Bool) (v4:List (List Int)) (v5:List dW) (v6:List Int):Option ((yaT).X ⊕ ((yex).X ⊕ (yi9).X)) :=
  bif (ltb v1 (v5.length:Int)) then
    bif (ltb v1 20) then
      bif (leb 0 (IntKind.u64.wrap v1)) then
        bif ((IntKind.i64.wrap ((BitVec.ofInt IntKind.i64.bits (v0.fdiv (2 ^ (min ((IntKind.u64.wrap v1)).toNat IntKind.i64.bits))) &&& BitVec.ofInt IntKind.i64.bits 1).toNat:Int))==1) then
          bif (inb v1 v5.length) then
            bif (inb v1 v5.length) then
              bif (inb ((nth v5 v1 (0,[])).1) v4.length) then
                let r5:=(v4.set ((nth v5 v1 (0,[])).1).toNat ((nth v5 v1 (0,[])).2))
                some (.inl (((v0,()),((),()),((),()),((IntKind.i64.wrap (v1+1)),()),()),(((),(),v2,(),()),((),(),v3,(),()),()),(r5,v5,v6,())))
              else none
            else none
          else none
        else
          some (.inl (((v0,()),((),()),((),()),((IntKind.i64.wrap (v1+1)),()),()),(((),(),v2,(),()),((),(),v3,(),()),()),(v4,v5,v6,())))
      else none
    else
      some (.inr (.inl ((((),()),((),()),()),(((),(),v2,(),()),((),(),v3,(),()),()),(v4,v5,v6,()))))
  else
    some (.inr (.inl ((((),()),((),()),()),(((),(),v2,(),()),((),(),v3,(),()),()),(v4,v5,v6,()))))
def ybf (x:(yaT).X):=yoy x.1.1.1 x.1.2.2.2.1.1 x.2.1.1.2.2.1 x.2.1.2.1.2.2.1 x.2.2.1 x.2.2.2.1 x.2.2.2.2.1
def yxA (x:(yeF).X):(yaT).X:=(((x.1.1.1,()),((),()),((),()),(x.1.2.2.2.1.1,()),()),(((),(),x.2.1.1.2.2.1,(),()),((),(),x.2.1.2.1.2.2.1,(),()),()),(x.2.2.1,x.2.2.2.1,x.2.2.2.2.1,()))
def yzi:Code:=(zdI ykT 64 500).getD .skip
theorem yLl:zdI ykT 64 125=some (.block 0 (.loop yzi)):=by kernel_rfl
theorem yM6 (x:(yaT).X):zg7 ⟨yrg,51,yDe⟩ 0 yzi 500 yaT yex yi9 x=ybf x:=by kernel_rfl
def yxO (x:(yeF).X):Nat:=(fun (u0:Int) (u1:Int) (u2:Bool) (u3:Bool) (u4:List (List Int)) (u5:List dW) (u6:List Int)=>18446744073709551616) x.1.1.1 x.1.2.2.2.1.1 x.2.1.1.2.2.1 x.2.1.2.1.2.2.1 x.2.2.1 x.2.2.2.1 x.2.2.2.2.1
def yic (x:(yeF).X):Option ((yex).X ⊕ (yi9).X):=zr ybf (yxO x) (yxA x)
def yx7:Seg:=⟨yeF,yex,yi9,yic⟩
def yDf:Nat→Option Seg:=fun q=>bif Nat.beq q 125 then some yx7 else yDe q
theorem yOk:FrOk Tryz.prog ⟨yrg,51,yDf⟩ ykT:=(yOj).loop (sg:=yx7) yaT yxA (by decide) yLl ybf yxO (by decide) (fun _=>rfl) (fun x r _ h=>h) yM6
abbrev ygl:List Par:= [.rd tM,.rd tI]
abbrev yrB:List OT:= [⟨false,tM,(.pr (.ow .fz) (.pr (.ow (.pr .fz .fz)) (.pr .fz (.ow .fz))))⟩]
def ymV (a0:dM) (a1:Int):Option (ResD yrB×MutD ygl) :=
  let r1:=yK a0
  let r2:=yX a0
  bif (!r2) then
    some ((r1,()),())
  else
    let r3:=ya a1 0 1048575
    bif (!r3) then
      zjw (yic (((0,()),((),()),((),()),(0,()),()),(((),(),false,(),()),((),(),r1.2.2.1,(),()),()),(r1.1,r1.2.1,r1.2.2.2,()))) (fun y5 =>
        some (((y5.2.2.1,([]:List dW),y5.2.1.2.1.2.2.1,y5.2.2.2.2.1),()),())) (fun y5 =>
        none)
    else
      zjw (yic (((a1,()),((),()),((),()),(0,()),()),(((),(),false,(),()),((),(),r1.2.2.1,(),()),()),(r1.1,r1.2.1,r1.2.2.2,()))) (fun y6 =>
        some (((y6.2.2.1,([]:List dW),y6.2.1.2.1.2.2.1,y6.2.2.2.2.1),()),())) (fun y6 =>
        none)
theorem yXs (x:InD ygl):zjH ⟨yrg,51,yDf⟩ Tryz.f188.results.toList ykT ygl yrB x=ymV x.1 x.2.1:=by kernel_rfl
theorem ySA:ConOk Tryz.prog 188 ⟨ygl,yrB,fun x=>ymV x.1 x.2.1⟩:=zkh (yOk) Tryz.func188 (by kernel_rfl) (by kernel_rfl) Tryz.ntmps188.symm (by decide) (fun x r h=>(yXs x).trans h)
def ygt (a0:dM) (a1:Int):dM:=ydf a0 a1
theorem yVv (a0:dM) (a1:Int) (hk:zi9 ygl (a0,a1,())):ymV a0 a1=(fun n=>some ((n,()),())) (ygt a0 a1):=by
  have hb2:a0.2.1.length * 32≤2 ^ 47:=hk.1.2.1.1
  unfold ymV ygt ydf
  simp only [yK,yX,yfg]
  cases hm:yp a0
  · rfl
  have h1: ∀ k,yic (yKo k 0 yf a0)=some (.inl (yxT yf (ycn (fun i=>decide (i < 20)&&yF4 k i) a0.2.1 a0.1,a0.2))):=fun k=>by
    rw [y1S]
    exact zks (step:=ybf) (min a0.2.1.length 20) (fun i s=>yod k i yf (s,a0.2)) (yco (yF4 k) a0.2.1) (fun i s=>s.length=a0.1.length) (fun s=> .inl (yxT yf (s,a0.2))) (fun i s hi hs=>by
      have hu:IntKind.u64.wrap (i:Int)=i:=by simp only [IntKind.wrap,IntKind.bits,IntKind.signed,Bool.false_and,Bool.false_eq_true,if_false]; omega
      have hw:=(yIB hm (show i < a0.2.1.length by omega)).1
      refine ⟨?_,ywD.trans hs⟩
      simp only [ybf,yod,yoy,zjI (show (i:Int) < a0.2.1.length by omega),cond_true,wr (show -9223372036854775808≤(i:Int)+1 by omega) (by omega),Int.natCast_add,Int.natCast_one,Int.toNat_natCast,zjI (show (i:Int) < 20 by omega),hu,zk0 (show (0:Int)≤i by omega),zkO (show i < a0.2.1.length by omega),hs,hw,yco]
      rw [show yF4 k i=(IntKind.i64.wrap ((BitVec.ofInt IntKind.i64.bits (k.fdiv (2 ^ (min i IntKind.i64.bits))) &&& BitVec.ofInt IntKind.i64.bits 1).toNat:Int)==1) from rfl]
      cases (IntKind.i64.wrap ((BitVec.ofInt IntKind.i64.bits (k.fdiv (2 ^ (min i IntKind.i64.bits))) &&& BitVec.ofInt IntKind.i64.bits 1).toNat:Int)==1)<;>rfl) (fun s hs=>by
      simp only [ybf,yod,yoy]
      by_cases h:a0.2.1.length≤20
      · rw [zkm (show (a0.2.1.length:Int)≤((min a0.2.1.length 20:Nat):Int) by omega)]; rfl
      · rw [zjI (show ((min a0.2.1.length 20:Nat):Int) < (a0.2.1.length:Int) by omega),zkm (show (20:Int)≤((min a0.2.1.length 20:Nat):Int) by omega)]; rfl) a0.1 rfl _ (by show _ < 18446744073709551616; omega)
  unfold yU7
  rw [h1 0,h1 a1]
  cases (leb 0 a1&&leb a1 1048575)<;>rfl
def yDW:Con:=⟨ygl,yrB,fun x=>(fun n=>some ((n,()),())) (ygt x.1 x.2.1)⟩
theorem yWs:ConOk Tryz.prog 188 yDW:=(ySA).mono (fun x r hk h=>(yVv x.1 x.2.1 hk).trans h)
end
section
def ys2:Code:=(Tryz.f110.body).getD .skip
def yyH:Env:=zki TT [(188,yDW)] [(4096,(.pr (.ow .fz) (.pr (.ow (.pr .fz .fz)) (.pr .fz (.ow .fz))))),(33216,(.pr (.ow .fz) (.pr (.ow (.pr .fz .fz)) (.pr .fz (.ow .fz)))))]
theorem yXI:FrOk Tryz.prog ⟨yyH,33,fun _=>none⟩ ys2:=zkp yb yc ⟨yWs,trivial⟩
def yJg:Nat→Option Seg:=fun _=>none
def yea:Shape:=⟨[(0,false,[.br tM]),(1,false,[.br tI]),(5,false,[.at 800000000]),(6,false,[.int .i64])],[],[(800000000,tM,(.pr (.ow .fz) (.pr (.ow (.pr .fz .fz)) (.pr .fz (.ow .fz)))))]⟩
def ylk:Shape:=⟨[(0,false,[.br tM]),(1,false,[.br tI]),(5,false,[.at 800000000]),(6,false,[.ci .i64 0])],[],[(800000000,tM,(.pr (.ow .fz) (.pr (.ow (.pr .fz .fz)) (.pr .fz (.ow .fz)))))]⟩
def yli:Shape:=⟨[(5,false,[.at 800000000])],[],[(800000000,tM,(.pr (.ow .fz) (.pr (.ow (.pr .fz .fz)) (.pr .fz (.ow .fz)))))]⟩
def yrI:Shape:=⟨[],[],[]⟩
abbrev ywG (v0:List dM) (v1:List Int) (v2:Int) (v3:List dM):(yea).X:=(((v0,()),(v1,()),((),()),(v2,()),()),(),(v3,()))
abbrev yVb (v0:List dM) (v1:List Int) (v2:List dM):(ylk).X:=(((v0,()),(v1,()),((),()),((),()),()),(),(v2,()))
abbrev yGP (v0:List dM):(yli).X:=((((),()),()),(),(v0,()))
def yxa (v0:List dM) (v1:List Int) (v2:Int) (v3:List dM):Option ((yea).X ⊕ ((yli).X ⊕ (yrI).X)) :=
  bif (ltb v2 (v0.length:Int)) then
    bif (ltb v2 (v1.length:Int)) then
      bif (inb v2 v1.length) then
        bif (inb v2 v0.length) then
          let r3:=ygt ((nth v0 v2 ([],[],false,[])).1,((nth v0 v2 ([],[],false,[])).2).1,(((nth v0 v2 ([],[],false,[])).2).2)) (nth v1 v2 0)
          bif (zj4 v3.length ([r3]:List dM).length 80) then
            some (.inl (((v0,()),(v1,()),((),()),((IntKind.i64.wrap (v2+1)),()),()),(),((v3++([r3]:List dM)),())))
          else none
        else none
      else none
    else
      bif (inb v2 v0.length) then
        let r4:=ygt ((nth v0 v2 ([],[],false,[])).1,((nth v0 v2 ([],[],false,[])).2).1,(((nth v0 v2 ([],[],false,[])).2).2)) 0
        bif (zj4 v3.length ([r4]:List dM).length 80) then
          some (.inl (((v0,()),(v1,()),((),()),((IntKind.i64.wrap (v2+1)),()),()),(),((v3++([r4]:List dM)),())))
        else none
      else none
  else
    some (.inr (.inl ((((),()),()),(),(v3,()))))
def yek (x:(yea).X):=yxa x.1.1.1 x.1.2.1.1 x.1.2.2.2.1.1 x.2.2.1
def yGI (x:(ylk).X):(yea).X:=(((x.1.1.1,()),(x.1.2.1.1,()),((),()),(0,()),()),(),(x.2.2.1,()))
def yHT:Code:=(zdI ys2 64 116).getD .skip
theorem yW7:zdI ys2 64 29=some (.block 0 (.loop yHT)):=by kernel_rfl
theorem yZe (x:(yea).X):zg7 ⟨yyH,33,yJg⟩ 0 yHT 116 yea yli yrI x=yek x:=by kernel_rfl
def yGM (x:(ylk).X):Nat:=(fun (u0:List dM) (u1:List Int) (u2:List dM)=>18446744073709551616) x.1.1.1 x.1.2.1.1 x.2.2.1
def yye (x:(ylk).X):Option ((yli).X ⊕ (yrI).X):=zr yek (yGM x) (yGI x)
def yG0:Seg:=⟨ylk,yli,yrI,yye⟩
def yJh:Nat→Option Seg:=fun q=>bif Nat.beq q 29 then some yG0 else yJg q
theorem yXJ:FrOk Tryz.prog ⟨yyH,33,yJh⟩ ys2:=(yXI).loop (sg:=yG0) yea yGI (by decide) yW7 yek yGM (by decide) (fun _=>rfl) (fun x r _ h=>h) yZe
abbrev ynX:List Par:= [.rd tMs,.rd tL]
abbrev yyM:List OT:= [⟨false,tMs,(.ow (.pr (.ow .fz) (.pr (.ow (.pr .fz .fz)) (.pr .fz (.ow .fz)))))⟩]
def yt9 (a0:List dM) (a1:List Int):Option (ResD yyM×MutD ynX) :=
  zjw (yye (((a0,()),(a1,()),((),()),((),()),()),(),(([]:List dM),()))) (fun y4 =>
    some ((y4.2.2.1,()),())) (fun y4 =>
    none)
theorem y1O (x:InD ynX):zjH ⟨yyH,33,yJh⟩ Tryz.f110.results.toList ys2 ynX yyM x=yt9 x.1 x.2.1:=by kernel_rfl
theorem y0B:ConOk Tryz.prog 110 ⟨ynX,yyM,fun x=>yt9 x.1 x.2.1⟩:=zkh (yXJ) Tryz.func110 (by kernel_rfl) (by kernel_rfl) Tryz.ntmps110.symm (by decide) (fun x r h=>(y1O x).trans h)
def ytf (a0:List dM) (a1:List Int):List dM:=yaA a0 a1
theorem y1s (a0:List dM) (a1:List Int) (hk:zi9 ynX (a0,a1,())):yt9 a0 a1=(fun n=>some ((n,()),())) (ytf a0 a1):=by
  have hb:a0.length * 80≤2 ^ 47:=hk.1.1
  have h1:yye (yVb a0 a1 [])=some (.inl (yGP ((List.range a0.length).foldl (fun s (i:Nat)=>s++ [ydf (nth a0 i yf) (ywC a1 i)]) []))) :=
    zks (step:=yek) a0.length (fun i s=>ywG a0 a1 i s) (fun s (i:Nat)=>s++ [ydf (nth a0 i yf) (ywC a1 i)]) (fun i s=>s.length=i) (fun s=> .inl (yGP s)) (fun i s hi hs=>⟨by
      simp only [yek,ywG,yxa,zjI (show (i:Int) < a0.length by omega),cond_true,wr (show -9223372036854775808≤(i:Int)+1 by omega) (by omega),Int.natCast_add,Int.natCast_one,Int.toNat_natCast,zkO hi,zkV,ygt,ywC]
      rw [zkw.2 (show (s.length+ [ydf (nth a0 i ([],[],false,[])) (nth a1 i 0)].length) * 80≤140737488355328 by simp only [List.length_cons,List.length_nil]; omega),zkw.2 (show (s.length+ [ydf (nth a0 i ([],[],false,[])) 0].length) * 80≤140737488355328 by simp only [List.length_cons,List.length_nil]; omega)]
      by_cases h:i < a1.length
      · rw [zjI (show (i:Int) < a1.length by omega),zkO h,decide_eq_true h]; rfl
      · rw [zkm (show (a1.length:Int)≤i by omega),decide_eq_false h]; rfl,by simp [hs]⟩) (fun s hs=>by simp only [yek,ywG,yxa,zkm (Int.le_refl _),cond_false]) [] rfl _ (by show _ < 18446744073709551616; omega)
  unfold yt9 ytf yaA
  rw [h1,yCC]; rfl
def yJH:Con:=⟨ynX,yyM,fun x=>(fun n=>some ((n,()),())) (ytf x.1 x.2.1)⟩
theorem y1z:ConOk Tryz.prog 110 yJH:=(y0B).mono (fun x r hk h=>(y1s x.1 x.2.1 hk).trans h)
end
section
def yHj:Code:=(Tryz.f36.body).getD .skip
def yHN:Env:=zki TT [(25,yGz),(98,yu),(109,yBK),(110,yJH)] []
theorem yOp:FrOk Tryz.prog ⟨yHN,29,fun _=>none⟩ yHj:=zkp yb yc ⟨yY2,yF,ySU,y1z,trivial⟩
def yP7:Nat→Option Seg:=fun _=>none
abbrev ygn:List Par:= [.rd tMs,.rd tL,.rd tI,.rd tI]
abbrev yrD:List OT:= [⟨false,tA,(.pr .fz (.pr (.pr .fz .fz) (.pr (.ow (.pr (.ow .fz) (.pr (.ow (.pr .fz .fz)) (.pr .fz (.ow .fz))))) (.pr .fz (.pr .fz (.pr .fz (.pr .fz (.pr .fz (.pr (.ow (.pr .fz .fz)) (.pr .fz (.pr .fz .fz)))))))))))⟩,⟨false,tB,.fz⟩]
def ymY (a0:List dM) (a1:List Int) (a2:Int) (a3:Int):Option (ResD yrD×MutD ygn) :=
  let r1:=ytf a0 a1
  let r2:=yjq r1 a2
  bif (!r2.2) then
    some ((r2.1,false,()),())
  else
    let r3:=ya a3 (-1) 1000
    bif r3 then
      let r4:=yhU (r2.1.1,r2.1.2.1,r2.1.2.2.1,r2.1.2.2.2.1,r2.1.2.2.2.2.1,r2.1.2.2.2.2.2.1,r2.1.2.2.2.2.2.2.1,r2.1.2.2.2.2.2.2.2.1,r2.1.2.2.2.2.2.2.2.2.1,a3,r2.1.2.2.2.2.2.2.2.2.2.2)
      some ((r4,true,()),())
    else
      let r5:=yhU r2.1
      some ((r5,true,()),())
theorem yXv (x:InD ygn):zjH ⟨yHN,29,yP7⟩ Tryz.f36.results.toList yHj ygn yrD x=ymY x.1 x.2.1 x.2.2.1 x.2.2.2.1:=by kernel_rfl
theorem ySD:ConOk Tryz.prog 36 ⟨ygn,yrD,fun x=>ymY x.1 x.2.1 x.2.2.1 x.2.2.2.1⟩:=zkh (yOp) Tryz.func36 (by kernel_rfl) (by kernel_rfl) Tryz.ntmps36.symm (by decide) (fun x r h=>(yXv x).trans h)
def ylG (a0:List dM) (a1:List Int) (a2 a3:Int):dA×Bool:=yuT a0 a1 a2 a3
theorem yVy (a0:List dM) (a1:List Int) (a2 a3:Int) (hk:zi9 ygn (a0,a1,a2,a3,())):ymY a0 a1 a2 a3=(fun n=>some ((n.1,n.2,()),())) (ylG a0 a1 a2 a3):=by
  unfold ymY ylG yuT
  simp only [ytf,yjq,yfg,yhU]
  cases h:(yO (yaA a0 a1) a2).2
  · have:(yO (yaA a0 a1) a2).1=ya2:=by
      unfold yO at h ⊢
      cases hc:((yH (yaA a0 a1) a2).2&&(((yaA a0 a1).length:Int)==(yH (yaA a0 a1) a2).1.2.2.2.1&&yaJ (yDs (yaA a0 a1) a2)))
      · rfl
      · rw [hc]at h; cases h
    rw [this]; rfl
  · cases (leb (-1) a3&&leb a3 1000)<;>rfl
def yDY:Con:=⟨ygn,yrD,fun x=>(fun n=>some ((n.1,n.2,()),())) (ylG x.1 x.2.1 x.2.2.1 x.2.2.2.1)⟩
theorem yWu:ConOk Tryz.prog 36 yDY:=(ySD).mono (fun x r hk h=>(yVy x.1 x.2.1 x.2.2.1 x.2.2.2.1 hk).trans h)
end
section
def ynf:Code:=(Tryz.f38.body).getD .skip
def ytp:Env:=zki TT [] []
theorem yQX:FrOk Tryz.prog ⟨ytp,22,fun _=>none⟩ ynf:=zkp yb yc trivial
def yFz:Nat→Option Seg:=fun _=>none
def yd8:Shape:=⟨[(0,false,[.br tI]),(3,false,[.at 800000000]),(4,false,[.int .i64])],[],[(800000000,tI,.fz)]⟩
def yma:Shape:=⟨[(0,false,[.br tI]),(3,false,[.at 800000000]),(4,false,[.ci .i64 0])],[],[(800000000,tI,.fz)]⟩
def yl4:Shape:=⟨[(3,false,[.at 800000000])],[],[(800000000,tI,.fz)]⟩
def ymm:Shape:=⟨[],[],[]⟩
def ysS (v0:List Int) (v1:Int) (v2:List Int):Option ((yd8).X ⊕ ((yl4).X ⊕ (ymm).X)) :=
  bif (ltb v1 (v0.length:Int)) then
    bif (inb v1 v0.length) then
      bif (inb v1 v2.length) then
        some (.inl (((v0,()),((),()),((IntKind.i64.wrap (v1+1)),()),()),(),((v2.set (v1).toNat (nth v0 v1 0)),())))
      else none
    else none
  else
    some (.inr (.inl ((((),()),()),(),(v2,()))))
def ycw (x:(yd8).X):=ysS x.1.1.1 x.1.2.2.1.1 x.2.2.1
def yBX (x:(yma).X):(yd8).X:=(((x.1.1.1,()),((),()),(0,()),()),(),(x.2.2.1,()))
def yDy:Code:=(zdI ynf 64 116).getD .skip
theorem yQg:zdI ynf 64 29=some (.block 0 (.loop yDy)):=by kernel_rfl
theorem yTb (x:(yd8).X):zg7 ⟨ytp,22,yFz⟩ 0 yDy 116 yd8 yl4 ymm x=ycw x:=by kernel_rfl
def yCb (x:(yma).X):Nat:=(fun (u0:List Int) (u1:List Int)=>18446744073709551616) x.1.1.1 x.2.2.1
def yuh (x:(yma).X):Option ((yl4).X ⊕ (ymm).X):=zr ycw (yCb x) (yBX x)
def yCs:Seg:=⟨yma,yl4,ymm,yuh⟩
def yFA:Nat→Option Seg:=fun q=>bif Nat.beq q 29 then some yCs else yFz q
theorem yQY:FrOk Tryz.prog ⟨ytp,22,yFA⟩ ynf:=(yQX).loop (sg:=yCs) yd8 yBX (by decide) yQg ycw yCb (by decide) (fun _=>rfl) (fun x r _ h=>h) yTb
abbrev yhE:List Par:= [.rd tL]
abbrev ytO:List OT:= [⟨false,tL,(.ow .fz)⟩]
def ypI (a0:List Int):Option (ResD ytO×MutD yhE) :=
  bif (zkc (a0.length:Int) 8) then
    zjw (yuh (((a0,()),((),()),((),()),()),(),((List.replicate ((a0.length:Int)).toNat (0:Int)),()))) (fun y0 =>
      some ((y0.2.2.1,()),())) (fun y0 =>
      none)
  else none
theorem yZR (x:InD yhE):zjH ⟨ytp,22,yFA⟩ Tryz.f38.results.toList ynf yhE ytO x=ypI x.1:=by kernel_rfl
theorem yVW:ConOk Tryz.prog 38 ⟨yhE,ytO,fun x=>ypI x.1⟩:=zkh (yQY) Tryz.func38 (by kernel_rfl) (by kernel_rfl) Tryz.ntmps38.symm (by decide) (fun x r h=>(yZR x).trans h)
def yJ (a0:List Int):List Int:=a0
theorem yX8 (a0:List Int) (hk:zi9 yhE (a0,())):ypI a0=(fun n=>some ((n,()),())) (yJ a0):=by
  have hb:a0.length * 8≤2 ^ 47:=hk.1.1
  have hs: ∀ i,i < a0.length→(a0.take i++List.replicate (a0.length - i) (0:Int)).set i (a0.getD i 0)=a0.take (i+1)++List.replicate (a0.length - (i+1)) 0:=fun i hi=>by
    have hl:(a0.take i).length=i:=by rw [List.length_take]; omega
    rw [List.set_append_right _ _ (by rw [hl]; exact Nat.le_refl _),hl,Nat.sub_self,List.take_add_one,List.append_assoc,show a0.length - i=(a0.length - (i+1))+1 by omega,List.replicate_succ]
    simp [hi]
  have hl:yuh (((a0,()),((),()),((),()),()),(),((a0.take 0++List.replicate (a0.length - 0) 0),()))=some (.inl ((((),()),()),(),(a0.take a0.length++List.replicate (a0.length - a0.length) 0,()))) :=
    zjs (step:=ycw) (fun i=>(((a0,()),((),()),((i:Int),()),()),(),(a0.take i++List.replicate (a0.length - i) 0,()))) a0.length _ (fun i hi=>by
      have hL:(a0.take i++List.replicate (a0.length - i) (0:Int)).length=a0.length:=by rw [List.length_append,List.length_take,List.length_replicate]; omega
      simp only [ycw,ysS,hL,zkO hi,zjW,Int.toNat_natCast,zjI (show (i:Int) < a0.length by omega),cond_true,wr (show -9223372036854775808≤(i:Int)+1 by omega) (by omega),Int.natCast_add,Int.natCast_one,hs i hi]) (by
      simp only [ycw,ysS,zkm (Int.le_refl _),cond_false]) _ (by show _ < 18446744073709551616; omega)
  unfold ypI yJ
  rw [List.take_zero,List.nil_append,Nat.sub_zero]at hl
  rw [show zkc (a0.length:Int) 8=true by rw [zkH]; omega,zkY,Int.toNat_natCast,hl]
  simp [zjw]
def yjg:Con:=⟨yhE,ytO,fun x=>(fun n=>some ((n,()),())) (yJ x.1)⟩
theorem yrU:ConOk Tryz.prog 38 yjg:=(yVW).mono (fun x r hk h=>(yX8 x.1 hk).trans h)
theorem yIf (a:List Int):yJ a=a:=by kernel_rfl
end
section
def ykS:Code:=(Tryz.f189.body).getD .skip
def yrf:Env:=zki TT [(38,yjg)] []
theorem yOh:FrOk Tryz.prog ⟨yrf,23,fun _=>none⟩ ykS:=zkp yb yc ⟨yrU,trivial⟩
def yDc:Nat→Option Seg:=fun _=>none
def ydc:Shape:=⟨[(0,false,[.br tL]),(3,false,[.at 800000000]),(4,false,[.int .i64])],[],[(800000000,tL,(.ow .fz))]⟩
def yjY:Shape:=⟨[(0,false,[.br tL]),(3,false,[.at 800000000]),(4,false,[.ci .i64 0])],[],[(800000000,tL,(.ow .fz))]⟩
def yjR:Shape:=⟨[(3,false,[.at 800000000])],[],[(800000000,tL,(.ow .fz))]⟩
def ykc:Shape:=⟨[],[],[]⟩
def yqY (v0:List (List Int)) (v1:Int) (v2:List (List Int)):Option ((ydc).X ⊕ ((yjR).X ⊕ (ykc).X)) :=
  bif (ltb v1 (v0.length:Int)) then
    bif (inb v1 v0.length) then
      let r2:=yJ (nth v0 v1 [])
      bif (inb v1 v2.length) then
        some (.inl (((v0,()),((),()),((IntKind.i64.wrap (v1+1)),()),()),(),((v2.set (v1).toNat r2),())))
      else none
    else none
  else
    some (.inr (.inl ((((),()),()),(),(v2,()))))
def ybN (x:(ydc).X):=yqY x.1.1.1 x.1.2.2.1.1 x.2.2.1
def yzC (x:(yjY).X):(ydc).X:=(((x.1.1.1,()),((),()),(0,()),()),(),(x.2.2.1,()))
def yBs:Code:=(zdI ykS 64 116).getD .skip
theorem yND:zdI ykS 64 29=some (.block 0 (.loop yBs)):=by kernel_rfl
theorem yPF (x:(ydc).X):zg7 ⟨yrf,23,yDc⟩ 0 yBs 116 ydc yjR ykc x=ybN x:=by kernel_rfl
def yzV (x:(yjY).X):Nat:=(fun (u0:List (List Int)) (u1:List (List Int))=>18446744073709551616) x.1.1.1 x.2.2.1
def ysm (x:(yjY).X):Option ((yjR).X ⊕ (ykc).X):=zr ybN (yzV x) (yzC x)
def yAl:Seg:=⟨yjY,yjR,ykc,ysm⟩
def yDd:Nat→Option Seg:=fun q=>bif Nat.beq q 29 then some yAl else yDc q
theorem yOi:FrOk Tryz.prog ⟨yrf,23,yDd⟩ ykS:=(yOh).loop (sg:=yAl) ydc yzC (by decide) yND ybN yzV (by decide) (fun _=>rfl) (fun x r _ h=>h) yPF
abbrev ygk:List Par:= [.rd tLL]
abbrev yrA:List OT:= [⟨false,tLL,(.ow (.ow .fz))⟩]
def ymU (a0:List (List Int)):Option (ResD yrA×MutD ygk) :=
  bif (zkc (a0.length:Int) 24) then
    zjw (ysm (((a0,()),((),()),((),()),()),(),((List.replicate ((a0.length:Int)).toNat ([]:List Int)),()))) (fun y2 =>
      some ((y2.2.2.1,()),())) (fun y2 =>
      none)
  else none
theorem yXr (x:InD ygk):zjH ⟨yrf,23,yDd⟩ Tryz.f189.results.toList ykS ygk yrA x=ymU x.1:=by kernel_rfl
theorem ySz:ConOk Tryz.prog 189 ⟨ygk,yrA,fun x=>ymU x.1⟩:=zkh (yOi) Tryz.func189 (by kernel_rfl) (by kernel_rfl) Tryz.ntmps189.symm (by decide) (fun x r h=>(yXr x).trans h)
def ygs (a0:List (List Int)):List (List Int):=a0
theorem yVu (a0:List (List Int)) (hk:zi9 ygk (a0,())):ymU a0=(fun n=>some ((n,()),())) (ygs a0):=by
  have hb:a0.length * 24≤2 ^ 47:=hk.1.1
  have hl:ysm (((a0,()),((),()),((),()),()),(),((List.replicate a0.length ([]:List Int)),()))=some (.inl ((((),()),()),(),(a0,()))) :=
    zkj (step:=ybN) a0 ([]:List Int) (fun i m=>(((a0,()),((),()),((i:Int),()),()),(),(m,()))) (fun m=> .inl ((((),()),()),(),(m,()))) (fun i m hi hm=>by
      simp only [ybN,yqY,zkO (show i < m.length by omega),zkO hi,zjW,Int.toNat_natCast,zjI (show (i:Int) < a0.length by omega),cond_true,wr (show -9223372036854775808≤(i:Int)+1 by omega) (by omega),Int.natCast_add,Int.natCast_one,zkV,yIf]) (fun m hm=>by
      simp only [ybN,yqY,zkm (Int.le_refl _),cond_false]) _ (by show _ < 18446744073709551616; omega)
  unfold ymU ygs
  rw [show zkc (a0.length:Int) 24=true by rw [zkH]; omega,zkY,Int.toNat_natCast,hl]
  rfl
def yDV:Con:=⟨ygk,yrA,fun x=>(fun n=>some ((n,()),())) (ygs x.1)⟩
theorem yWr:ConOk Tryz.prog 189 yDV:=(ySz).mono (fun x r hk h=>(yVu x.1 hk).trans h)
theorem y2L (a:List (List Int)):ygs a=a:=by kernel_rfl
end
section
def yPO:Code:=(Tryz.f238.body).getD .skip
def yPT:Env:=zki TT [(38,yjg)] []
theorem yXH:FrOk Tryz.prog ⟨yPT,12,fun _=>none⟩ yPO:=zkp yb yc ⟨yrU,trivial⟩
def yZw:Nat→Option Seg:=fun _=>none
abbrev ys5:List Par:= [.rd tW]
abbrev yyL:List OT:= [⟨false,tW,(.pr .fz (.ow .fz))⟩]
def yAF (a0:dW):Option (ResD yyL×MutD ys5) :=
  let r1:=yJ a0.2
  some (((a0.1,r1),()),())
theorem y1N (x:InD ys5):zjH ⟨yPT,12,yZw⟩ Tryz.f238.results.toList yPO ys5 yyL x=yAF x.1:=by kernel_rfl
theorem y0A:ConOk Tryz.prog 238 ⟨ys5,yyL,fun x=>yAF x.1⟩:=zkh (yXH) Tryz.func238 (by kernel_rfl) (by kernel_rfl) Tryz.ntmps238.symm (by decide) (fun x r h=>(y1N x).trans h)
def yyR (a0:dW):dW :=
  let r1:=yJ a0.2
  (a0.1,r1)
def yJG:Con:=⟨ys5,yyL,fun x=>(fun n=>some ((n,()),())) (yyR x.1)⟩
theorem y1r (a0:dW):yAF a0=(fun n=>some ((n,()),())) (yyR a0):=zkS (p:=fun (n:dW)=>((n,()),())) rfl
theorem y1y:ConOk Tryz.prog 238 yJG:=(y0A).mono (fun x r _ h=>(y1r x.1).trans h)
theorem y1k (a:dW):yyR a=a:=by kernel_rfl
end
end
end Go.Tf
