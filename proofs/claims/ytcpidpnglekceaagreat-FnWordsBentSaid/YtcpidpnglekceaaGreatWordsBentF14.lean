/- Functions of the program, and what they come to. -/
import Derived.Test.YtcpidpnglekceaaGreatWordsBentF13
namespace Go.Tf
noncomputable section
open Go.Proofs
set_option synthInstance.maxHeartbeats 400000
set_option synthInstance.maxSize 10000
set_option linter.unusedVariables false
set_option linter.unusedSimpArgs false
set_option maxRecDepth 100000
section
def yzy:Code:=(Tryz.f211.body).getD .skip
def yzZ:Env:=zki TT [(131,yK)] []
theorem yEE:FrOk Tryz.prog ⟨yzZ,11,fun _=>none⟩ yzy:=zkp ye yf ⟨yaa,trivial⟩
def yGU:Nat→Option Seg:=fun _=>none
abbrev yiR:List Par:= [.rd tM,.rd tI]
abbrev ynk:List OT:= [⟨false,tB,.fz⟩]
def yqj (a0:dM) (a1:Int):Option (ResD ynk×MutD yiR) :=
  let r1:=yl a1 0 (IntKind.i64.wrap ((a0.1.length:Int) - 1))
  some ((r1,()),())
theorem yMY (x:InD yiR):zjH ⟨yzZ,11,yGU⟩ Tryz.f211.results.toList yzy yiR ynk x=yqj x.1 x.2.1:=by kernel_rfl
theorem yJa:ConOk Tryz.prog 211 ⟨yiR,ynk,fun x=>yqj x.1 x.2.1⟩:=zkh (yEE) Tryz.func211 (by kernel_rfl) (by kernel_rfl) Tryz.ntmps211.symm (by decide) (fun x r h=>(yMY x).trans h)
def ycv (a0:dM) (a1:Int):Bool :=
  let r1:=yl a1 0 (IntKind.i64.wrap ((a0.1.length:Int) - 1))
  r1
def ypU:Con:=⟨yiR,ynk,fun x=>(fun n=>some ((n,()),())) (ycv x.1 x.2.1)⟩
theorem yK3 (a0:dM) (a1:Int):yqj a0 a1=(fun n=>some ((n,()),())) (ycv a0 a1):=zkS (p:=fun (n:Bool)=>((n,()),())) rfl
theorem yyQ:ConOk Tryz.prog 211 ypU:=(yJa).mono (fun x r _ h=>(yK3 x.1 x.2.1).trans h)
end
section
def yAT:Code:=(Tryz.f240.body).getD .skip
def yBa:Env:=zki TT [(247,yn6)] []
theorem yHW:FrOk Tryz.prog ⟨yBa,10,fun _=>none⟩ yAT:=zkp ye yf ⟨yxc,trivial⟩
def yKj:Nat→Option Seg:=fun _=>none
abbrev ykN:List Par:= [.rd tL]
abbrev ypw:List OT:= [⟨false,tB,.fz⟩]
def yrk (a0:List Int):Option (ResD ypw×MutD ykN) :=
  bif (leb (a0.length:Int) 12) then
    let r1:=yan a0
    some ((r1,()),())
  else
    some ((false,()),())
theorem yOp (x:InD ykN):zjH ⟨yBa,10,yKj⟩ Tryz.f240.results.toList yAT ykN ypw x=yrk x.1:=by kernel_rfl
theorem yLw:ConOk Tryz.prog 240 ⟨ykN,ypw,fun x=>yrk x.1⟩:=zkh (yHW) Tryz.func240 (by kernel_rfl) (by kernel_rfl) Tryz.ntmps240.symm (by decide) (fun x r h=>(yOp x).trans h)
def yhN (a0:List Int):Bool :=
  bif (leb (a0.length:Int) 12) then
    let r1:=yan a0
    r1
  else
    false
def yyn:Con:=⟨ykN,ypw,fun x=>(fun n=>some ((n,()),())) (yhN x.1)⟩
theorem yNy (a0:List Int):yrk a0=(fun n=>some ((n,()),())) (yhN a0):=zkS (p:=fun (n:Bool)=>((n,()),())) (zkx (p:=fun (n:Bool)=>((n,()),())) rfl rfl)
theorem yNU:ConOk Tryz.prog 240 yyn:=(yLw).mono (fun x r _ h=>(yNy x.1).trans h)
theorem yDX:yhN=yR:=funext fun s=>by
  unfold yhN yR yan
  rw [show yV=isW from funext fun x=>by unfold yV; rw [yat,yaL]; rfl]
  cases leb (s.length:Int) 12<;>rfl
end
section
def yaC:Code:=(Tryz.f179.body).getD .skip
def yc1:Env:=zki TT [(131,yK),(211,ypU),(240,yyn)] []
theorem yHS:FrOk Tryz.prog ⟨yc1,76,fun _=>none⟩ yaC:=zkp ye yf ⟨yaa,yyQ,yNU,trivial⟩
def yxF:Nat→Option Seg:=fun _=>none
def ybO:Shape:=⟨[(1,false,[.ptr 0 0]),(10,false,[.br tL]),(11,false,[.int .i64]),(12,false,[.int .i64])],[(0,[.br tL,.br tW,.bool,.br tI])],[]⟩
def yfS:Shape:=⟨[(1,false,[.ptr 0 0]),(10,false,[.br tL]),(11,false,[.int .i64]),(12,false,[.ci .i64 0])],[(0,[.br tL,.br tW,.bool,.br tI])],[]⟩
def yfB:Shape:=⟨[(1,false,[.ptr 0 0])],[(0,[.br tL,.br tW,.bool,.br tI])],[]⟩
def ygf:Shape:=⟨[(2,false,[.bool])],[],[]⟩
abbrev yob (v0:List (List Int)) (v1:Int) (v2:Int) (v3:dM):(ybO).X:=((((),()),(v0,()),(v1,()),(v2,()),()),((v3.1,v3.2.1,v3.2.2.1,v3.2.2.2,()),()),())
abbrev yFy (v0:List (List Int)) (v1:Int) (v2:dM):(yfS).X:=((((),()),(v0,()),(v1,()),((),()),()),((v2.1,v2.2.1,v2.2.2.1,v2.2.2.2,()),()),())
abbrev yFp (v0:dM):(yfB).X:=((((),()),()),((v0.1,v0.2.1,v0.2.2.1,v0.2.2.2,()),()),())
abbrev yFO (v0:Bool):(ygf).X:=(((v0,()),()),(),())
def yov (v0:List (List Int)) (v1:Int) (v2:Int) (v3:List (List Int)) (v4:List dW) (v5:Bool) (v6:List Int):Option ((ybO).X ⊕ ((yfB).X ⊕ (ygf).X)) :=
  bif (ltb v2 v1) then
    bif (inb v2 v0.length) then
      let r2:=yhN (nth v0 v2 [])
      bif (!r2) then
        some (.inr (.inr (((false,()),()),(),())))
      else
        some (.inl ((((),()),(v0,()),(v1,()),((IntKind.i64.wrap (v2+1)),()),()),((v3,v4,v5,v6,()),()),()))
    else none
  else
    some (.inr (.inl ((((),()),()),((v3,v4,v5,v6,()),()),())))
def yce (x:(ybO).X):=yov x.1.2.1.1 x.1.2.2.1.1 x.1.2.2.2.1.1 x.2.1.1.1 x.2.1.1.2.1 x.2.1.1.2.2.1 x.2.1.1.2.2.2.1
def yur (x:(yfS).X):(ybO).X:=((((),()),(x.1.2.1.1,()),(x.1.2.2.1.1,()),(0,()),()),((x.2.1.1.1,x.2.1.1.2.1,x.2.1.1.2.2.1,x.2.1.1.2.2.2.1,()),()),())
def ywr:Code:=(zdI yaC 64 52).getD .skip
theorem yHh:zdI yaC 64 13=some (.block 0 (.loop ywr)):=by kernel_rfl
theorem yJX (x:(ybO).X):zg7 ⟨yc1,76,yxF⟩ 0 ywr 52 ybO yfB ygf x=yce x:=by kernel_rfl
def yuJ (x:(yfS).X):Nat:=(fun (u0:List (List Int)) (u1:Int) (u2:List (List Int)) (u3:List dW) (u4:Bool) (u5:List Int)=>18446744073709551616) x.1.2.1.1 x.1.2.2.1.1 x.2.1.1.1 x.2.1.1.2.1 x.2.1.1.2.2.1 x.2.1.1.2.2.2.1
def ypc (x:(yfS).X):Option ((yfB).X ⊕ (ygf).X):=zr yce (yuJ x) (yur x)
def yvk:Seg:=⟨yfS,yfB,ygf,ypc⟩
def yqQ:Nat→Option Seg:=fun q=>bif Nat.beq q 13 then some yvk else yxF q
theorem yHT:FrOk Tryz.prog ⟨yc1,76,yqQ⟩ yaC:=(yHS).loop (sg:=yvk) ybO yur (by decide) yHh yce yuJ (by decide) (fun _=>rfl) (fun x r _ h=>h) yJX
def ybP:Shape:=⟨[(1,false,[.ptr 0 0]),(21,false,[.br tW]),(22,false,[.int .i64]),(23,false,[.int .i64])],[(0,[.br tL,.br tW,.bool,.br tI])],[]⟩
def yfT:Shape:=⟨[(1,false,[.ptr 0 0]),(21,false,[.br tW]),(22,false,[.int .i64]),(23,false,[.ci .i64 0])],[(0,[.br tL,.br tW,.bool,.br tI])],[]⟩
def yfC:Shape:=⟨[(1,false,[.ptr 0 0])],[(0,[.br tL,.br tW,.bool,.br tI])],[]⟩
def ygg:Shape:=⟨[(2,false,[.bool])],[],[]⟩
abbrev yoc (v0:List dW) (v1:Int) (v2:Int) (v3:dM):(ybP).X:=((((),()),(v0,()),(v1,()),(v2,()),()),((v3.1,v3.2.1,v3.2.2.1,v3.2.2.2,()),()),())
abbrev yFz (v0:List dW) (v1:Int) (v2:dM):(yfT).X:=((((),()),(v0,()),(v1,()),((),()),()),((v2.1,v2.2.1,v2.2.2.1,v2.2.2.2,()),()),())
abbrev yFq (v0:dM):(yfC).X:=((((),()),()),((v0.1,v0.2.1,v0.2.2.1,v0.2.2.2,()),()),())
abbrev yFP (v0:Bool):(ygg).X:=(((v0,()),()),(),())
def yow (v0:List dW) (v1:Int) (v2:Int) (v3:List (List Int)) (v4:List dW) (v5:Bool) (v6:List Int):Option ((ybP).X ⊕ ((yfC).X ⊕ (ygg).X)) :=
  bif (ltb v2 v1) then
    bif (inb v2 v0.length) then
      let r6:=ycv (v3,v4,v5,v6) ((nth v0 v2 (0,[])).1)
      bif (!(!r6)) then
        let r7:=yhN ((nth v0 v2 (0,[])).2)
        bif (!r7) then
          some (.inr (.inr (((false,()),()),(),())))
        else
          some (.inl ((((),()),(v0,()),(v1,()),((IntKind.i64.wrap (v2+1)),()),()),((v3,v4,v5,v6,()),()),()))
      else
        some (.inr (.inr (((false,()),()),(),())))
    else none
  else
    some (.inr (.inl ((((),()),()),((v3,v4,v5,v6,()),()),())))
def ycf (x:(ybP).X):=yow x.1.2.1.1 x.1.2.2.1.1 x.1.2.2.2.1.1 x.2.1.1.1 x.2.1.1.2.1 x.2.1.1.2.2.1 x.2.1.1.2.2.2.1
def yus (x:(yfT).X):(ybP).X:=((((),()),(x.1.2.1.1,()),(x.1.2.2.1.1,()),(0,()),()),((x.2.1.1.1,x.2.1.1.2.1,x.2.1.1.2.2.1,x.2.1.1.2.2.2.1,()),()),())
def yws:Code:=(zdI yaC 64 116).getD .skip
theorem yHi:zdI yaC 64 29=some (.block 2 (.loop yws)):=by kernel_rfl
theorem yJY (x:(ybP).X):zg7 ⟨yc1,76,yqQ⟩ 2 yws 116 ybP yfC ygg x=ycf x:=by kernel_rfl
def yuK (x:(yfT).X):Nat:=(fun (u0:List dW) (u1:Int) (u2:List (List Int)) (u3:List dW) (u4:Bool) (u5:List Int)=>18446744073709551616) x.1.2.1.1 x.1.2.2.1.1 x.2.1.1.1 x.2.1.1.2.1 x.2.1.1.2.2.1 x.2.1.1.2.2.2.1
def ypd (x:(yfT).X):Option ((yfC).X ⊕ (ygg).X):=zr ycf (yuK x) (yus x)
def yvl:Seg:=⟨yfT,yfC,ygg,ypd⟩
def yqR:Nat→Option Seg:=fun q=>bif Nat.beq q 29 then some yvl else yqQ q
theorem yHU:FrOk Tryz.prog ⟨yc1,76,yqR⟩ yaC:=(yHT).loop (sg:=yvl) ybP yus (by decide) yHi ycf yuK (by decide) (fun _=>rfl) (fun x r _ h=>h) yJY
def ybQ:Shape:=⟨[(1,false,[.ptr 0 0]),(40,false,[.br tI]),(41,false,[.int .i64]),(42,false,[.int .i64])],[(0,[.br tL,.br tW,.bool,.br tI])],[]⟩
def yfU:Shape:=⟨[(1,false,[.ptr 0 0]),(40,false,[.br tI]),(41,false,[.int .i64]),(42,false,[.ci .i64 0])],[(0,[.br tL,.br tW,.bool,.br tI])],[]⟩
def yfD:Shape:=⟨[(1,false,[.ptr 0 0])],[(0,[.br tL,.br tW,.bool,.br tI])],[]⟩
def ygh:Shape:=⟨[(2,false,[.bool])],[],[]⟩
abbrev yod (v0:List Int) (v1:Int) (v2:Int) (v3:dM):(ybQ).X:=((((),()),(v0,()),(v1,()),(v2,()),()),((v3.1,v3.2.1,v3.2.2.1,v3.2.2.2,()),()),())
abbrev yFA (v0:List Int) (v1:Int) (v2:dM):(yfU).X:=((((),()),(v0,()),(v1,()),((),()),()),((v2.1,v2.2.1,v2.2.2.1,v2.2.2.2,()),()),())
abbrev yFr (v0:dM):(yfD).X:=((((),()),()),((v0.1,v0.2.1,v0.2.2.1,v0.2.2.2,()),()),())
abbrev yFQ (v0:Bool):(ygh).X:=(((v0,()),()),(),())
def yox (v0:List Int) (v1:Int) (v2:Int) (v3:List (List Int)) (v4:List dW) (v5:Bool) (v6:List Int):Option ((ybQ).X ⊕ ((yfD).X ⊕ (ygh).X)) :=
  bif (ltb v2 v1) then
    bif (inb v2 v0.length) then
      let r10:=ycv (v3,v4,v5,v6) (nth v0 v2 0)
      bif (!(!r10)) then
        bif (ltb 0 v2) then
          bif (inb (IntKind.i64.wrap (v2 - 1)) v6.length) then
            bif (leb (nth v0 v2 0) (nth v6 (IntKind.i64.wrap (v2 - 1)) 0)) then
              some (.inr (.inr (((false,()),()),(),())))
            else
              some (.inl ((((),()),(v0,()),(v1,()),((IntKind.i64.wrap (v2+1)),()),()),((v3,v4,v5,v6,()),()),()))
          else none
        else
          some (.inl ((((),()),(v0,()),(v1,()),((IntKind.i64.wrap (v2+1)),()),()),((v3,v4,v5,v6,()),()),()))
      else
        some (.inr (.inr (((false,()),()),(),())))
    else none
  else
    some (.inr (.inl ((((),()),()),((v3,v4,v5,v6,()),()),())))
def ycg (x:(ybQ).X):=yox x.1.2.1.1 x.1.2.2.1.1 x.1.2.2.2.1.1 x.2.1.1.1 x.2.1.1.2.1 x.2.1.1.2.2.1 x.2.1.1.2.2.2.1
def yut (x:(yfU).X):(ybQ).X:=((((),()),(x.1.2.1.1,()),(x.1.2.2.1.1,()),(0,()),()),((x.2.1.1.1,x.2.1.1.2.1,x.2.1.1.2.2.1,x.2.1.1.2.2.2.1,()),()),())
def ywt:Code:=(zdI yaC 64 244).getD .skip
theorem yHj:zdI yaC 64 61=some (.block 4 (.loop ywt)):=by kernel_rfl
theorem yJZ (x:(ybQ).X):zg7 ⟨yc1,76,yqR⟩ 4 ywt 244 ybQ yfD ygh x=ycg x:=by kernel_rfl
def yuL (x:(yfU).X):Nat:=(fun (u0:List Int) (u1:Int) (u2:List (List Int)) (u3:List dW) (u4:Bool) (u5:List Int)=>18446744073709551616) x.1.2.1.1 x.1.2.2.1.1 x.2.1.1.1 x.2.1.1.2.1 x.2.1.1.2.2.1 x.2.1.1.2.2.2.1
def ype (x:(yfU).X):Option ((yfD).X ⊕ (ygh).X):=zr ycg (yuL x) (yut x)
def yvm:Seg:=⟨yfU,yfD,ygh,ype⟩
def yxG:Nat→Option Seg:=fun q=>bif Nat.beq q 61 then some yvm else yqR q
theorem yHV:FrOk Tryz.prog ⟨yc1,76,yxG⟩ yaC:=(yHU).loop (sg:=yvm) ybQ yut (by decide) yHj ycg yuL (by decide) (fun _=>rfl) (fun x r _ h=>h) yJZ
abbrev yhe:List Par:= [.rd tM]
abbrev ypv:List OT:= [⟨false,tB,.fz⟩]
def ylU (a0:dM):Option (ResD ypv×MutD yhe) :=
  zjw (ypc ((((),()),(a0.1,()),((a0.1.length:Int),()),((),()),()),((a0.1,a0.2.1,a0.2.2.1,a0.2.2.2,()),()),())) (fun y2 =>
    zjw (ypd ((((),()),(y2.2.1.1.2.1,()),((y2.2.1.1.2.1.length:Int),()),((),()),()),((y2.2.1.1.1,y2.2.1.1.2.1,y2.2.1.1.2.2.1,y2.2.1.1.2.2.2.1,()),()),())) (fun y7 =>
      zjw (ype ((((),()),(y7.2.1.1.2.2.2.1,()),((y7.2.1.1.2.2.2.1.length:Int),()),((),()),()),((y7.2.1.1.1,y7.2.1.1.2.1,y7.2.1.1.2.2.1,y7.2.1.1.2.2.2.1,()),()),())) (fun y10 =>
        let r12:=yl (y10.2.1.1.1.length:Int) 1 20
        bif r12 then
          some (((leb (y10.2.1.1.2.1.length:Int) 60),()),())
        else
          some ((false,()),())) (fun y10 =>
        some ((y10.1.1.1,()),()))) (fun y7 =>
      some ((y7.1.1.1,()),()))) (fun y2 =>
    some ((y2.1.1.1,()),()))
theorem yOo (x:InD yhe):zjH ⟨yc1,76,yxG⟩ Tryz.f179.results.toList yaC yhe ypv x=ylU x.1:=by kernel_rfl
theorem yLv:ConOk Tryz.prog 179 ⟨yhe,ypv,fun x=>ylU x.1⟩:=zkh (yHV) Tryz.func179 (by kernel_rfl) (by kernel_rfl) Tryz.ntmps179.symm (by decide) (fun x r h=>(yOo x).trans h)
def yeV (a0:dM):Bool:=yz a0
theorem yNx (a0:dM) (hk:zi9 yhe (a0,())):ylU a0=(fun n=>some ((n,()),())) (yeV a0):=by
  have hb1:a0.1.length * 24≤2 ^ 47:=hk.1.1.1
  have hb2:a0.2.1.length * 32≤2 ^ 47:=hk.1.2.1.1
  have hb3:a0.2.2.2.length * 8≤2 ^ 47:=hk.1.2.2.2.1
  have h1:ypc (yFy a0.1 a0.1.length a0)=some (bif a0.1.all yR then .inl (yFp a0) else .inr (yFO false)) :=
    zjS (step:=yce) a0.1 [] (fun i=>yob a0.1 a0.1.length i a0) yR _ _ (fun i hi=>by
      simp only [yce,yob,yov,zjI (show (i:Int) < a0.1.length by omega),cond_true,wr (show -9223372036854775808≤(i:Int)+1 by omega) (by omega),Int.natCast_add,Int.natCast_one,Int.toNat_natCast,zkO hi,zjW,yDX]
      cases yR (a0.1.getD i [])<;>rfl) (by simp only [yce,yob,yov,zkm (Int.le_refl _),cond_false]) _ (by show _ < 18446744073709551616; omega)
  have h2:ypd (yFz a0.2.1 a0.2.1.length a0)=some (bif a0.2.1.all (yqB a0.1.length) then .inl (yFq a0) else .inr (yFP false)) :=
    zjS (step:=ycf) a0.2.1 (0,[]) (fun i=>yoc a0.2.1 a0.2.1.length i a0) (yqB a0.1.length) _ _ (fun i hi=>by
      simp only [ycf,yoc,yow,zjI (show (i:Int) < a0.2.1.length by omega),cond_true,wr (show -9223372036854775808≤(i:Int)+1 by omega) (by omega),Int.natCast_add,Int.natCast_one,Int.toNat_natCast,zkO hi,zjW,yDX,ycv,yat,ymW (show a0.1.length≤1152921504606846976 by omega),yqB]
      cases inb (a0.2.1.getD i (0,[])).1 a0.1.length<;>cases yR (a0.2.1.getD i (0,[])).2<;>rfl) (by simp only [ycf,yoc,yow,zkm (Int.le_refl _),cond_false]) _ (by show _ < 18446744073709551616; omega)
  have h3:ype (yFA a0.2.2.2 a0.2.2.2.length a0)=some (bif (List.range a0.2.2.2.length).any (ywn a0.1.length a0.2.2.2) then .inr (yFQ false) else .inl (yFr a0)) :=
    zf4 (step:=ycg) (fun i=>yod a0.2.2.2 a0.2.2.2.length i a0) a0.2.2.2.length (ywn a0.1.length a0.2.2.2) _ _ (fun i hi=>by
      simp only [ycg,yod,yox,zjI (show (i:Int) < a0.2.2.2.length by omega),cond_true,wr (show -9223372036854775808≤(i:Int)+1 by omega) (by omega),Int.natCast_add,Int.natCast_one,Int.toNat_natCast,zkO hi,zjW,ycv,yat,ymW (show a0.1.length≤1152921504606846976 by omega),ywn]
      rcases Nat.eq_zero_or_pos i with rfl | h0
      · cases inb (a0.2.2.2.getD 0 0) a0.1.length<;>rfl
      · rw [show IntKind.i64.wrap ((i:Int) - 1)=((i - 1:Nat):Int) by rw [wr (by omega) (by omega)]; omega,zkO (show i - 1 < a0.2.2.2.length by omega),zjW,zjI (show (0:Int) < i by omega),decide_eq_true h0]
        cases inb (a0.2.2.2.getD i 0) a0.1.length<;>cases leb (a0.2.2.2.getD i 0) (a0.2.2.2.getD (i - 1) 0)<;>rfl) (by simp only [ycg,yod,yox,zkm (Int.le_refl _),cond_false]) _ (by show _ < 18446744073709551616; omega)
  unfold ylU yeV yz
  rw [h1]
  cases a0.1.all yR
  · rfl
  simp only [cond_true,zkJ,h2]
  cases a0.2.1.all (yqB a0.1.length)
  · rfl
  simp only [cond_true,zkJ,h3,yMs,yat,yaL]
  cases ylI a0.1.length a0.2.2.2
  · rfl
  simp only [Bool.not_true,cond_false,zkJ]
  cases leb 1 (a0.1.length:Int)<;>cases leb (a0.1.length:Int) 20<;>rfl
def yqY:Con:=⟨yhe,ypv,fun x=>(fun n=>some ((n,()),())) (yeV x.1)⟩
theorem yAm:ConOk Tryz.prog 179 yqY:=(yLv).mono (fun x r hk h=>(yNx x.1 hk).trans h)
end
section
def yxt:Code:=(Tryz.f180.body).getD .skip
def yx7:Env:=zki TT [] []
theorem yCO:FrOk Tryz.prog ⟨yx7,6,fun _=>none⟩ yxt:=zkp ye yf trivial
def yD2:Nat→Option Seg:=fun _=>none
abbrev yhi:List Par:= [.rd tG]
abbrev ylz:List OT:= [⟨false,tI,.fz⟩]
def yoq (a0:dG):Option (ResD ylz×MutD yhi) :=
  some (((IntKind.i64.wrap (6+a0.2)),()),())
theorem yKB (x:InD yhi):zjH ⟨yx7,6,yD2⟩ Tryz.f180.results.toList yxt yhi ylz x=yoq x.1:=by kernel_rfl
theorem yGc:ConOk Tryz.prog 180 ⟨yhi,ylz,fun x=>yoq x.1⟩:=zkh (yCO) Tryz.func180 (by kernel_rfl) (by kernel_rfl) Tryz.ntmps180.symm (by decide) (fun x r h=>(yKB x).trans h)
def ylL (a0:dG):Int :=
  (IntKind.i64.wrap (6+a0.2))
def yuh:Con:=⟨yhi,ylz,fun x=>(fun n=>some ((n,()),())) (ylL x.1)⟩
theorem yIQ (a0:dG):yoq a0=(fun n=>some ((n,()),())) (ylL a0):=zkS (p:=fun (n:Int)=>((n,()),())) rfl
theorem yJI:ConOk Tryz.prog 180 yuh:=(yGc).mono (fun x r _ h=>(yIQ x.1).trans h)
end
section
def ykw:Code:=(Tryz.f78.body).getD .skip
def yoY:Env:=zki TT [(131,yK),(175,yqX),(177,ywO),(178,yug),(179,yqY),(180,yuh)] []
theorem yHP:FrOk Tryz.prog ⟨yoY,103,fun _=>none⟩ ykw:=zkp ye yf ⟨yaa,yAl,yL4,yJH,yAm,yJI,trivial⟩
def yxD:Nat→Option Seg:=fun _=>none
def ybN:Shape:=⟨[(1,false,[.ptr 0 0]),(41,false,[.br tM]),(42,false,[.int .i64]),(43,false,[.int .i64])],[(0,[.int .i64,.int .i64,.int .i64,.br tM,.int .i64,.int .i64,.int .i64,.int .i64,.int .i64,.br tW,.int .i64,.bool,.bool])],[]⟩
def yfR:Shape:=⟨[(1,false,[.ptr 0 0]),(41,false,[.br tM]),(42,false,[.int .i64]),(43,false,[.ci .i64 0])],[(0,[.int .i64,.int .i64,.int .i64,.br tM,.int .i64,.int .i64,.int .i64,.int .i64,.int .i64,.br tW,.int .i64,.bool,.bool])],[]⟩
def yfA:Shape:=⟨[(1,false,[.ptr 0 0])],[(0,[.int .i64,.int .i64,.int .i64,.br tM,.int .i64,.int .i64,.int .i64,.int .i64,.int .i64,.br tW,.int .i64,.bool,.bool])],[]⟩
def yge:Shape:=⟨[(2,false,[.bool])],[],[]⟩
abbrev yoa (v0:List dM) (v1:Int) (v2:Int) (v3:dA):(ybN).X:=((((),()),(v0,()),(v1,()),(v2,()),()),((v3.1,v3.2.1.1,v3.2.1.2,v3.2.2.1,v3.2.2.2.1,v3.2.2.2.2.1,v3.2.2.2.2.2.1,v3.2.2.2.2.2.2.1,v3.2.2.2.2.2.2.2.1,v3.2.2.2.2.2.2.2.2.1,v3.2.2.2.2.2.2.2.2.2.1,v3.2.2.2.2.2.2.2.2.2.2.1,v3.2.2.2.2.2.2.2.2.2.2.2,()),()),())
abbrev yFx (v0:List dM) (v1:Int) (v2:dA):(yfR).X:=((((),()),(v0,()),(v1,()),((),()),()),((v2.1,v2.2.1.1,v2.2.1.2,v2.2.2.1,v2.2.2.2.1,v2.2.2.2.2.1,v2.2.2.2.2.2.1,v2.2.2.2.2.2.2.1,v2.2.2.2.2.2.2.2.1,v2.2.2.2.2.2.2.2.2.1,v2.2.2.2.2.2.2.2.2.2.1,v2.2.2.2.2.2.2.2.2.2.2.1,v2.2.2.2.2.2.2.2.2.2.2.2,()),()),())
abbrev yFo (v0:dA):(yfA).X:=((((),()),()),((v0.1,v0.2.1.1,v0.2.1.2,v0.2.2.1,v0.2.2.2.1,v0.2.2.2.2.1,v0.2.2.2.2.2.1,v0.2.2.2.2.2.2.1,v0.2.2.2.2.2.2.2.1,v0.2.2.2.2.2.2.2.2.1,v0.2.2.2.2.2.2.2.2.2.1,v0.2.2.2.2.2.2.2.2.2.2.1,v0.2.2.2.2.2.2.2.2.2.2.2,()),()),())
abbrev yFN (v0:Bool):(yge).X:=(((v0,()),()),(),())
def you (v0:List dM) (v1:Int) (v2:Int) (v3:Int) (v4:Int) (v5:Int) (v6:List dM) (v7:Int) (v8:Int) (v9:Int) (v10:Int) (v11:Int) (v12:List dW) (v13:Int) (v14:Bool) (v15:Bool):Option ((ybN).X ⊕ ((yfA).X ⊕ (yge).X)) :=
  bif (ltb v2 v1) then
    bif (inb v2 v0.length) then
      let r7:=yeV ((nth v0 v2 ([],[],false,[])).1,((nth v0 v2 ([],[],false,[])).2).1,(((nth v0 v2 ([],[],false,[])).2).2))
      bif (!(!r7)) then
        let r8:=ylL (v4,v5)
        bif (!((((nth v0 v2 ([],[],false,[])).1).length:Int) !=r8)) then
          bif (((nth v0 v2 ([],[],false,[])).2).2).1 then
            bif (v7 !=v2) then
              bif (!v15) then
                some (.inr (.inr (((false,()),()),(),())))
              else
                some (.inl ((((),()),(v0,()),(v1,()),((IntKind.i64.wrap (v2+1)),()),()),((v3,v4,v5,v6,v7,v8,v9,v10,v11,v12,v13,v14,v15,()),()),()))
            else
              some (.inl ((((),()),(v0,()),(v1,()),((IntKind.i64.wrap (v2+1)),()),()),((v3,v4,v5,v6,v7,v8,v9,v10,v11,v12,v13,v14,v15,()),()),()))
          else
            some (.inl ((((),()),(v0,()),(v1,()),((IntKind.i64.wrap (v2+1)),()),()),((v3,v4,v5,v6,v7,v8,v9,v10,v11,v12,v13,v14,v15,()),()),()))
        else
          some (.inr (.inr (((false,()),()),(),())))
      else
        some (.inr (.inr (((false,()),()),(),())))
    else none
  else
    some (.inr (.inl ((((),()),()),((v3,v4,v5,v6,v7,v8,v9,v10,v11,v12,v13,v14,v15,()),()),())))
def ycd (x:(ybN).X):=you x.1.2.1.1 x.1.2.2.1.1 x.1.2.2.2.1.1 x.2.1.1.1 x.2.1.1.2.1 x.2.1.1.2.2.1 x.2.1.1.2.2.2.1 x.2.1.1.2.2.2.2.1 x.2.1.1.2.2.2.2.2.1 x.2.1.1.2.2.2.2.2.2.1 x.2.1.1.2.2.2.2.2.2.2.1 x.2.1.1.2.2.2.2.2.2.2.2.1 x.2.1.1.2.2.2.2.2.2.2.2.2.1 x.2.1.1.2.2.2.2.2.2.2.2.2.2.1 x.2.1.1.2.2.2.2.2.2.2.2.2.2.2.1 x.2.1.1.2.2.2.2.2.2.2.2.2.2.2.2.1
def yuq (x:(yfR).X):(ybN).X:=((((),()),(x.1.2.1.1,()),(x.1.2.2.1.1,()),(0,()),()),((x.2.1.1.1,x.2.1.1.2.1,x.2.1.1.2.2.1,x.2.1.1.2.2.2.1,x.2.1.1.2.2.2.2.1,x.2.1.1.2.2.2.2.2.1,x.2.1.1.2.2.2.2.2.2.1,x.2.1.1.2.2.2.2.2.2.2.1,x.2.1.1.2.2.2.2.2.2.2.2.1,x.2.1.1.2.2.2.2.2.2.2.2.2.1,x.2.1.1.2.2.2.2.2.2.2.2.2.2.1,x.2.1.1.2.2.2.2.2.2.2.2.2.2.2.1,x.2.1.1.2.2.2.2.2.2.2.2.2.2.2.2.1,()),()),())
def ywq:Code:=(zdI ykw 64 116).getD .skip
theorem yHg:zdI ykw 64 29=some (.block 0 (.loop ywq)):=by kernel_rfl
theorem yJW (x:(ybN).X):zg7 ⟨yoY,103,yxD⟩ 0 ywq 116 ybN yfA yge x=ycd x:=by kernel_rfl
def yuI (x:(yfR).X):Nat:=(fun (u0:List dM) (u1:Int) (u2:Int) (u3:Int) (u4:Int) (u5:List dM) (u6:Int) (u7:Int) (u8:Int) (u9:Int) (u10:Int) (u11:List dW) (u12:Int) (u13:Bool) (u14:Bool)=>18446744073709551616) x.1.2.1.1 x.1.2.2.1.1 x.2.1.1.1 x.2.1.1.2.1 x.2.1.1.2.2.1 x.2.1.1.2.2.2.1 x.2.1.1.2.2.2.2.1 x.2.1.1.2.2.2.2.2.1 x.2.1.1.2.2.2.2.2.2.1 x.2.1.1.2.2.2.2.2.2.2.1 x.2.1.1.2.2.2.2.2.2.2.2.1 x.2.1.1.2.2.2.2.2.2.2.2.2.1 x.2.1.1.2.2.2.2.2.2.2.2.2.2.1 x.2.1.1.2.2.2.2.2.2.2.2.2.2.2.1 x.2.1.1.2.2.2.2.2.2.2.2.2.2.2.2.1
def ypb (x:(yfR).X):Option ((yfA).X ⊕ (yge).X):=zr ycd (yuI x) (yuq x)
def yvj:Seg:=⟨yfR,yfA,yge,ypb⟩
def yxE:Nat→Option Seg:=fun q=>bif Nat.beq q 29 then some yvj else yxD q
theorem yHQ:FrOk Tryz.prog ⟨yoY,103,yxE⟩ ykw:=(yHP).loop (sg:=yvj) ybN yuq (by decide) yHg ycd yuI (by decide) (fun _=>rfl) (fun x r _ h=>h) yJW
abbrev yhd:List Par:= [.rd tA]
abbrev ypt:List OT:= [⟨false,tB,.fz⟩]
def ylT (a0:dA):Option (ResD ypt×MutD yhd) :=
  let r1:=yhL a0.2.1
  bif (!(!r1)) then
    bif (!((a0.2.2.1.length:Int) !=a0.2.1.1)) then
      let r2:=yl a0.1 1 60000
      bif (!(!r2)) then
        let r3:=ynM a0.2.1 a0.2.2.2.1 a0.2.2.2.2.1
        bif (!(!r3)) then
          bnd (ylP a0) fun r4 =>
          bif (!r4.1.1) then
            some ((false,()),())
          else
            zjw (ypb ((((),()),(a0.2.2.1,()),((a0.2.2.1.length:Int),()),((),()),()),((a0.1,a0.2.1.1,a0.2.1.2,a0.2.2.1,a0.2.2.2.1,a0.2.2.2.2.1,a0.2.2.2.2.2.1,a0.2.2.2.2.2.2.1,a0.2.2.2.2.2.2.2.1,a0.2.2.2.2.2.2.2.2.1,a0.2.2.2.2.2.2.2.2.2.1,a0.2.2.2.2.2.2.2.2.2.2.1,a0.2.2.2.2.2.2.2.2.2.2.2,()),()),())) (fun y8 =>
              let r10:=yl y8.2.1.1.2.2.2.2.2.2.1 0 60000
              bif r10 then
                let r11:=yl y8.2.1.1.2.2.2.2.2.2.2.1 0 60000
                bif r11 then
                  let r12:=yl y8.2.1.1.2.2.2.2.2.2.2.2.1 0 60000
                  bif r12 then
                    let r13:=yl (IntKind.i64.wrap (y8.2.1.1.2.2.2.2.2.2.1 - y8.2.1.1.2.2.2.2.2.2.2.1)) 0 4
                    bif r13 then
                      let r14:=yl y8.2.1.1.2.2.2.2.2.2.2.2.2.2.1 (-1) 1000
                      some ((r14,()),())
                    else
                      some ((false,()),())
                  else
                    some ((false,()),())
                else
                  some ((false,()),())
              else
                some ((false,()),())) (fun y8 =>
              some ((y8.1.1.1,()),()))
        else
          some ((false,()),())
      else
        some ((false,()),())
    else
      some ((false,()),())
  else
    some ((false,()),())
theorem yOm (x:InD yhd):zjH ⟨yoY,103,yxE⟩ Tryz.f78.results.toList ykw yhd ypt x=ylT x.1:=by kernel_rfl
theorem yLt:ConOk Tryz.prog 78 ⟨yhd,ypt,fun x=>ylT x.1⟩:=zkh (yHQ) Tryz.func78 (by kernel_rfl) (by kernel_rfl) Tryz.ntmps78.symm (by decide) (fun x r h=>(yOm x).trans h)
theorem yQW {S T G F z TS le:Bool} (h1:T=true→TS=true→S=true) (h2:S=true→T=true→z=(TS&&le)) :
    (bif S then bif T then bif G then bif z then some ((F,()),()) else some ((false,()),()) else some ((false,()),()) else some ((false,()),()) else some ((false,()),()))=some (((T&&(TS&&(le&&(G&&F)))),()),()):=by
  cases S
  · cases T
    · rfl
    · cases TS
      · rfl
      · exact absurd (h1 rfl rfl) Bool.false_ne_true
  · cases T
    · cases G<;>rfl
    · rw [h2 rfl rfl]
      cases TS<;>cases le<;>cases G<;>rfl
def yeU (a0:dA):Bool:=yv a0
theorem yNv (a0:dA) (hk:zi9 yhd (a0,())):ylT a0=(fun n=>some ((n,()),())) (yeU a0):=by
  have hb:a0.2.2.1.length * 80≤2 ^ 47:=hk.1.2.2.1.1
  unfold ylT yeU yv
  simp only [yIC,yat,yaL]
  cases hg:yd a0.2.1
  · rfl
  have hg2:=yn.1 hg
  have h1:ypb (yFx a0.2.2.1 a0.2.2.1.length a0)=some (bif (List.range a0.2.2.1.length).any (yeT a0) then .inr (yFN false) else .inl (yFo a0)) :=
    zf4 (step:=ycd) (fun i=>yoa a0.2.2.1 a0.2.2.1.length i a0) a0.2.2.1.length (yeT a0) _ _ (fun i hi=>by
      simp only [ycd,yoa,you,zjI (show (i:Int) < a0.2.2.1.length by omega),cond_true,wr (show -9223372036854775808≤(i:Int)+1 by omega) (by omega),Int.natCast_add,Int.natCast_one,Int.toNat_natCast,zkO hi,zkV,yeV,yeT,ylL,wr (show -9223372036854775808≤6+a0.2.1.2 by omega) (by omega),yg]
      rw [show (a0.2.2.2.1 !=(i:Int))=((i:Int) !=a0.2.2.2.1) from bne_comm]
      cases yz (nth a0.2.2.1 i ([],[],false,[]))<;>cases (((nth a0.2.2.1 i ([],[],false,[])).1.length:Int) !=6+a0.2.1.2)<;>cases (nth a0.2.2.1 i ([],[],false,[])).2.2.1<;>cases ((i:Int) !=a0.2.2.2.1)<;>cases a0.2.2.2.2.2.2.2.2.2.2.2<;>rfl) (by simp only [ycd,yoa,you,zkm (Int.le_refl _),cond_false]) _ (by show _ < 18446744073709551616; omega)
  rw [yJQ a0 hg,h1]
  simp only [zky,yhO,ynM,yat,yaL,wr (show -9223372036854775808≤a0.2.1.1 - 1 by omega) (by omega),yjc]
  have hw:(leb 0 a0.2.2.2.2.2.1&&leb a0.2.2.2.2.2.1 60000)=true→(leb 0 a0.2.2.2.2.2.2.1&&leb a0.2.2.2.2.2.2.1 60000)=true→IntKind.i64.wrap (a0.2.2.2.2.2.1 - a0.2.2.2.2.2.2.1)=a0.2.2.2.2.2.1 - a0.2.2.2.2.2.2.1:=fun h h'=>by
    rw [Bool.and_eq_true,zjQ,zjQ]at h h'
    exact wr (by omega) (by omega)
  simp only [bne,Bool.not_not,cond_true,Bool.true_and]
  have h2:(leb 0 a0.2.2.2.2.2.1&&leb a0.2.2.2.2.2.1 60000)=true→(leb 0 a0.2.2.2.2.2.2.1&&leb a0.2.2.2.2.2.2.1 60000)=true→(leb 0 (IntKind.i64.wrap (a0.2.2.2.2.2.1 - a0.2.2.2.2.2.2.1))&&leb (IntKind.i64.wrap (a0.2.2.2.2.2.1 - a0.2.2.2.2.2.2.1)) 4)=((leb a0.2.2.2.2.2.2.1 a0.2.2.2.2.2.1&&leb a0.2.2.2.2.2.1 60000)&&leb a0.2.2.2.2.2.1 (a0.2.2.2.2.2.2.1+4)):=fun h h'=>by
    rw [hw h h',Bool.eq_iff_iff]
    simp only [Bool.and_eq_true,zjQ]at h h' ⊢
    omega
  have h3:(leb 0 a0.2.2.2.2.2.2.1&&leb a0.2.2.2.2.2.2.1 60000)=true→(leb a0.2.2.2.2.2.2.1 a0.2.2.2.2.2.1&&leb a0.2.2.2.2.2.1 60000)=true→(leb 0 a0.2.2.2.2.2.1&&leb a0.2.2.2.2.2.1 60000)=true:=fun h h'=>by
    simp only [Bool.and_eq_true,zjQ]at h h' ⊢
    omega
  cases ((a0.2.2.1.length:Int)==a0.2.1.1)
  · cases (leb 1 a0.1&&leb a0.1 60000)<;>cases (List.range a0.2.2.1.length).any (yeT a0)<;>rfl
  cases (leb 1 a0.1&&leb a0.1 60000)
  · rfl
  cases (leb (-1) a0.2.2.2.1&&leb a0.2.2.2.1 (a0.2.1.1 - 1))
  · cases (List.range a0.2.2.1.length).any (yeT a0)<;>cases yay a0.2.1 a0.2.2.2.2.2.2.2.2.1<;>rfl
  cases (leb 0 a0.2.2.2.2.1&&leb a0.2.2.2.2.1 a0.2.1.2)
  · cases (List.range a0.2.2.1.length).any (yeT a0)<;>cases yay a0.2.1 a0.2.2.2.2.2.2.2.2.1<;>rfl
  cases yay a0.2.1 a0.2.2.2.2.2.2.2.2.1
  · cases (List.range a0.2.2.1.length).any (yeT a0)<;>cases (a0.2.2.2.1== -1)<;>cases (a0.2.2.2.2.1==0)<;>rfl
  cases (List.range a0.2.2.1.length).any (yeT a0)
  · cases (a0.2.2.2.1== -1)<;>cases (a0.2.2.2.2.1==0)
    case true.false=>rfl
    all_goals exact yQW h3 h2
  · cases (a0.2.2.2.1== -1)<;>cases (a0.2.2.2.2.1==0)<;>rfl
def yqW:Con:=⟨yhd,ypt,fun x=>(fun n=>some ((n,()),())) (yeU x.1)⟩
theorem yAk:ConOk Tryz.prog 78 yqW:=(yLt).mono (fun x r hk h=>(yNv x.1 hk).trans h)
end
section
def yzw:Code:=(Tryz.f84.body).getD .skip
def yzX:Env:=zki TT [(131,yK)] []
theorem yEA:FrOk Tryz.prog ⟨yzX,34,fun _=>none⟩ yzw:=zkp ye yf ⟨yaa,trivial⟩
def yGS:Nat→Option Seg:=fun _=>none
abbrev yfb:List Par:= [.rd tA,.rd tI,.rd tI]
abbrev ynh:List OT:= [⟨false,tB,.fz⟩]
def ykf (a0:dA) (a1:Int) (a2:Int):Option (ResD ynh×MutD yfb) :=
  let r1:=yl a1 0 (IntKind.i64.wrap ((a0.2.2.1.length:Int) - 1))
  bif r1 then
    bif (inb a1 a0.2.2.1.length) then
      bif (!((((nth a0.2.2.1 a1 ([],[],false,[])).2).2).1)) then
        bif (!(a0.2.2.2.1 !=a1)) then
          some (((ltb a2 a0.2.2.2.2.1),()),())
        else
          some ((true,()),())
      else
        some ((false,()),())
    else none
  else
    some ((false,()),())
theorem yMV (x:InD yfb):zjH ⟨yzX,34,yGS⟩ Tryz.f84.results.toList yzw yfb ynh x=ykf x.1 x.2.1 x.2.2.1:=by kernel_rfl
theorem yI7:ConOk Tryz.prog 84 ⟨yfb,ynh,fun x=>ykf x.1 x.2.1 x.2.2.1⟩:=zkh (yEA) Tryz.func84 (by kernel_rfl) (by kernel_rfl) Tryz.ntmps84.symm (by decide) (fun x r h=>(yMV x).trans h)
def yjf (a0:dA) (a1 a2:Int):Bool:=yb4 a0 a1 a2
theorem yK0 (a0:dA) (a1 a2:Int) (hk:zi9 yfb (a0,a1,a2,())):ykf a0 a1 a2=(fun n=>some ((n,()),())) (yjf a0 a1 a2):=by
  have hb:a0.2.2.1.length * 80≤2 ^ 47:=hk.1.2.2.1.1
  unfold ykf yjf yb4 yg
  rw [yat,ymW (show a0.2.2.1.length≤1152921504606846976 by omega),bne_comm]
  cases inb a1 a0.2.2.1.length
  · rfl
  · cases (nth a0.2.2.1 a1 ([],[],false,[])).2.2.1<;>cases (a1 !=a0.2.2.2.1)<;>rfl
def ywK:Con:=⟨yfb,ynh,fun x=>(fun n=>some ((n,()),())) (yjf x.1 x.2.1 x.2.2.1)⟩
theorem yL0:ConOk Tryz.prog 84 ywK:=(yI7).mono (fun x r hk h=>(yK0 x.1 x.2.1 x.2.2.1 hk).trans h)
end
end
end Go.Tf
