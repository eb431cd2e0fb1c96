/- A symbolic executor over the model, proved sound: part 4. -/
import Derived.KernelRfl
import Derived.Test.YtolmneojjjpnjaaGreatTf3
namespace Go.Tf
set_option linter.unusedVariables false
set_option linter.unusedSimpArgs false
section
variable {T K:Nat→Bool} {s u:St} {sh uh:Sh} {E:Env} {o:Oper} {site:Nat}
theorem zbl {ag:Bool} {x:V} {cs:List C} (e:zy ag x=some cs): ∀c∈cs,∀k∈c.refs,k∈x.refs:=by
 cases x<;>simp only[zy]at e
 case c x=>cases ag<;>simp at e; subst e; intro c hc k hk; simp at hc; subst hc; exact hk
 case agg l=>cases ag<;>simp at e; subst e; intro c hc k hk; exact List.mem_flatMap.2 ⟨c,hc,hk⟩
 all_goals simp at e
theorem zbm: ∀{ds:List LD} {as:List Ann} {s:St} {key:Nat},(∀j,key≤j→j<key+ds.length→K j=true)→zo (zp T K s u) key ds as=(zo s key ds as).map (zdT T K u)
 | [],[],_,_,_=>rfl
 | [],_::_,_,_,_=>rfl
 | _::_,[],_,_,_=>by simp[zo]
 | .int k n::ds,a::as,s,key,h=>by
  simp only[zo];rw[zbm (fun j h1 h2=>h j h1 (by simp only[List.length_cons]; omega))];cases zo s key ds as<;>rfl
 | .bool b::ds,a::as,s,key,h=>by
  simp only[zo];rw[zbm (fun j h1 h2=>h j h1 (by simp only[List.length_cons]; omega))];cases zo s key ds as<;>rfl
 | .sl t l::ds,a::as,s,key,h=>by
  have h1: ∀j,key≤j→j<key+ds.length→K j=true:=fun j h1 h2=>h j h1 (by simp only[List.length_cons]; omega)
  have h2: ∀j,key+1≤j→j<key+1+ds.length→K j=true:=fun j h1 h2=>h j (by omega) (by simp only[List.length_cons]; omega)
  cases a with
  | ow a' =>
   simp only[zo];rw[zcE (h key (Nat.le_refl _) (by simp))];cases zV s key ⟨t,a',l⟩with
   | none=>rfl
   | some s1 =>
    simp only[Option.map_some];rw[zbm h2];cases zo s1 (key+1) ds as<;>rfl
  | fz =>
   simp only[zo];rw[zbm h1];cases zo s key ds as<;>rfl
  | pr _ _ =>
   simp only[zo];rw[zbm h1];cases zo s key ds as<;>rfl
theorem zfw: ∀{os:List OT} {x:zaY os} {s:St} {key:Nat},(∀j,key≤j→j<key+zW os→K j=true)→zaJ (zp T K s u) key os x=(zaJ s key os x).map (zdT T K u)
 | [],_,_,_,_=>rfl
 | ⟨pt,t,an⟩::os,x,s,key,h=>by
  simp only[zaJ];have hl:(t.flat x.1).length=t.size:=zao _ _;rw[zbm (fun j h1 h2=>h j h1 (by rw[hl]at h2; simp only[zW]; omega))];cases zo s key (t.flat x.1) (an.flat t)with
  | none=>rfl
  | some q =>
   obtain⟨cs,s1⟩:=q;simp only[Option.map_some,zdT];cases pt with
   | false =>
    simp only;refine zdw _ ?_;rw[zfw (fun j h1 h2=>h j (by omega) (by simp only[zW]; omega))];cases zaJ s1 (key+t.size+1) os x.2<;>rfl
   | true =>
    simp only;rw[zdh (h (key+t.size) (by omega) (by simp only[zW]; omega))];cases zQ s1 (key+t.size) cs with
    | none=>rfl
    | some s2 =>
     simp only[Option.map_some];rw[zfw (fun j h1 h2=>h j (by omega) (by simp only[zW]; omega))];cases zaJ s2 (key+t.size+1) os x.2<;>rfl
theorem zje {c:C} {a:Ann} {t:Ty} (h: ∀k∈c.refs,K k=true):zeS (zm K sh uh) a t c=zeS sh a t c:=by
 cases c<;>first | rfl | (have hk:=h _ List.mem_cons_self; simp only[zeS,zK hk])
theorem zfK: ∀{as:List Ann} {ts:List Ty} {cs:List C},(∀c∈cs,∀k∈c.refs,K k=true)→zP (zm K sh uh) as ts cs=zP sh as ts cs
 | [],[],[],_=>rfl
 | a::as,t::ts,c::cs,h=>by
  simp only[zP];rw[zje (h c (by simp)),zfK (fun c hc=>h c (by simp[hc]))]
 | [],[],_::_,_=>rfl
 | [],_::_,_,_=>rfl
 | _::_,[],_,_=>rfl
 | _::_,_::_,[],_=>rfl
theorem zjf {t:Ty} {a:Ann} {cs:List C} (h: ∀c∈cs,∀k∈c.refs,K k=true):zdQ (zm K sh uh) t a cs=zdQ sh t a cs:=by
 simp only[zdQ,zfK h]
theorem zj4 {i:FuncId} {t:Ty} {v:V} (h: ∀k∈v.refs,K k=true) (hb: ∀k∈v.refs,∀cs,sh.boxes k=some cs→ ∀c∈cs,∀j∈c.refs,K j=true):fnT (zm K sh uh) i t v=fnT sh i t v:=by
 cases v with
 | c x =>
  cases x with
  | fn f cap =>
   match cap with
   | []=>rfl
   | [(k,off)] =>
    have hkr:k∈(V.c (.fn f [(k,off)])).refs:=by simp[V.refs,C.refs]
    have hk:K k=true:=h k hkr;simp only[fnT,zbR hk];cases hbx:sh.boxes k with
    | none=>rfl
    | some cs =>
     match cs with
     | []=>rfl
     | [c] =>
      simp only;rw[zia (hb k hkr [c] hbx)]
     | _::_::_=>rfl
   | _::_::_=>rfl
  | _=>rfl
 | _=>rfl
theorem zbi: ∀{ps:List Par} {vs:List V} {sh:Sh},(∀v∈vs,∀k∈v.refs,K k=true)→(∀v∈vs,∀k∈v.refs,∀cs,sh.boxes k=some cs→ ∀c∈cs,∀j∈c.refs,K j=true) →
  (zw sh ps vs=none∧zw (zm K sh uh) ps vs=none) ∨
  ∃k k2 sh1,zw sh ps vs=some (k,sh1)∧zw (zm K sh uh) ps vs=some (k2,zm K sh1 uh)∧sh1.boxes=sh.boxes∧ ∀sm sr,k2 (zm K sm uh) (zm K sr uh)=k sm sr
 | [],[],sh,_,_=> .inr ⟨_,_,sh,rfl,rfl,rfl,fun _ _=>rfl⟩
 | [],_::_,_,_,_=> .inl ⟨rfl,rfl⟩
 | .rd t::ps,[],_,_,_=> .inl ⟨rfl,rfl⟩
 | .kp t _::ps,[],_,_,_=> .inl ⟨rfl,rfl⟩
 | .fn _ _::ps,[],_,_,_=> .inl ⟨rfl,rfl⟩
 | .rp _::ps,[],_,_,_=> .inl ⟨rfl,rfl⟩
 | .fn i t::ps,v::vs,sh,h,hb=>by
  simp only[zw];rw[zj4 (h v (by simp)) (hb v (by simp))];cases hc:fnT sh i t v with
  | none=>exact .inl ⟨rfl,rfl⟩
  | some x =>
   rcases zbi (ps:=ps) (vs:=vs) (sh:=sh) (fun v hv=>h v (by simp[hv])) (fun v hv=>hb v (by simp[hv]))with⟨h1,h2⟩ | ⟨k,k2,sh1,h1,h2,h4,h3⟩
   ·rw[h1,h2]; exact .inl ⟨rfl,rfl⟩
   ·rw[h1,h2]
    refine .inr ⟨_,_,sh1,rfl,rfl,h4,fun sm sr=> ?_⟩;rw[h3]
 | .rp t::ps,v::vs,sh,h,hb=>by
  simp only[zw];cases hc:rpT t v with
  | none=>exact .inl ⟨rfl,rfl⟩
  | some x =>
   rcases zbi (ps:=ps) (vs:=vs) (sh:=sh) (fun v hv=>h v (by simp[hv])) (fun v hv=>hb v (by simp[hv]))with⟨h1,h2⟩ | ⟨k,k2,sh1,h1,h2,h4,h3⟩
   ·rw[h1,h2]; exact .inl ⟨rfl,rfl⟩
   ·rw[h1,h2]
    refine .inr ⟨_,_,sh1,rfl,rfl,h4,fun sm sr=> ?_⟩;rw[h3]
 | .mt _ _::_,[],_,_,_=> .inl ⟨rfl,rfl⟩
 | .pt _ _::_,[],_,_,_=> .inl ⟨rfl,rfl⟩
 | .mt t an::ps,v::vs,sh,h,hb=>by
  simp only[zw];cases hc:zy t.isSt v with
  | none=>exact .inl ⟨rfl,rfl⟩
  | some cs =>
   have hr: ∀c∈cs,∀k∈c.refs,K k=true:=fun c hc' k hk=>h v (by simp) k (zbl hc c hc' k hk)
   rcases zbi (ps:=ps) (vs:=vs) (sh:=sh) (fun v hv=>h v (by simp[hv])) (fun v hv=>hb v (by simp[hv]))with⟨h1,h2⟩ | ⟨k,k2,sh1,h1,h2,h4,h3⟩
   ·rw[h1,h2]; exact .inl ⟨rfl,rfl⟩
   ·rw[h1,h2]
    refine .inr ⟨_,_,sh1,rfl,rfl,h4,fun sm sr=> ?_⟩;rw[zjf hr,h3]
 | .rd t::ps,v::vs,sh,h,hb=>by
  simp only[zw];cases hc:zy t.isSt v with
  | none=>exact .inl ⟨rfl,rfl⟩
  | some cs =>
   have hr: ∀c∈cs,∀k∈c.refs,K k=true:=fun c hc' k hk=>h v (by simp) k (zbl hc c hc' k hk)
   rcases zbi (ps:=ps) (vs:=vs) (sh:=sh) (fun v hv=>h v (by simp[hv])) (fun v hv=>hb v (by simp[hv]))with⟨h1,h2⟩ | ⟨k,k2,sh1,h1,h2,h4,h3⟩
   ·rw[h1,h2]; exact .inl ⟨rfl,rfl⟩
   ·rw[h1,h2]
    refine .inr ⟨_,_,sh1,rfl,rfl,h4,fun sm sr=> ?_⟩;rw[zia hr,h3]
 | .kp t an::ps,v::vs,sh,h,hb=>by
  simp only[zw];cases hc:zy t.isSt v with
  | none=>exact .inl ⟨rfl,rfl⟩
  | some cs =>
   have hr: ∀c∈cs,∀k∈c.refs,K k=true:=fun c hc' k hk=>h v (by simp) k (zbl hc c hc' k hk)
   simp only;rw[zgc hr];cases hm:mvT sh t an cs with
   | none=>exact .inl ⟨rfl,rfl⟩
   | some p =>
    obtain⟨x,sh2⟩:=p;have hsb:=(zbe hm).1;simp only[Option.map_some,za0];rcases zbi (ps:=ps) (vs:=vs) (sh:=sh2) (fun v hv=>h v (by simp[hv])) (fun v hv k hk cs hcs=>hb v (by simp[hv]) k hk cs (by rw[← hsb]; exact hcs))with⟨h1,h2⟩ | ⟨k,k2,sh1,h1,h2,h4,h3⟩
    ·rw[h1,h2]; exact .inl ⟨rfl,rfl⟩
    ·rw[h1,h2]
     refine .inr ⟨_,_,sh1,rfl,rfl,h4.trans hsb,fun sm sr=> ?_⟩;rw[h3]
 | .pt t an::ps,v::vs,sh,h,hb=>by
  simp only[zw];cases v with
  | c x =>
   cases x with
   | ptr k off =>
    simp only;cases Nat.beq off 0 with
    | false=>exact .inl ⟨rfl,rfl⟩
    | true =>
     simp only[cond_true];have hk:K k=true:=h _ List.mem_cons_self k List.mem_cons_self;rw[zbR hk];cases hcs:sh.boxes k with
     | none=>exact .inl ⟨rfl,rfl⟩
     | some cs =>
      simp only;rw[zgc (hb _ List.mem_cons_self k List.mem_cons_self cs hcs)];cases hm:mvT sh t an cs with
      | none=>exact .inl ⟨rfl,rfl⟩
      | some p =>
       obtain⟨y,sh2⟩:=p;have hsb:=(zbe hm).1;simp only[Option.map_some,za0];rcases zbi (ps:=ps) (vs:=vs) (sh:=sh2) (fun v hv=>h v (List.mem_cons_of_mem _ hv)) (fun v hv k hk cs hcs=>hb v (List.mem_cons_of_mem _ hv) k hk cs (by rw[← hsb]; exact hcs))with⟨h1,h2⟩ | ⟨k,k2,sh1,h1,h2,h4,h3⟩
       ·rw[h1,h2]; exact .inl ⟨rfl,rfl⟩
       ·rw[h1,h2]
        refine .inr ⟨_,_,sh1,rfl,rfl,h4.trans hsb,fun sm sr=> ?_⟩;rw[h3]
   | _=>exact .inl ⟨rfl,rfl⟩
  | _=>exact .inl ⟨rfl,rfl⟩
theorem zik {α:Type} {dst:Option Nat} {con:Con} {vs:List V} {K:St→Option α}:zb0 site s dst con vs K=(zb0 site s dst con vs some).bind K:=by
 unfold zb0;cases zw s.sh con.ins vs with
 | none=>rfl
 | some p =>
  obtain⟨k,sm⟩:=p;simp only;cases(zaf (zD con.ins vs)&&zaf (zB con.ins vs)&&zfy (zH con.ins vs) (zB con.ins vs))with
  | false=>rfl
  | true =>
   simp only[cond_true];cases k sm (zaa (zD con.ins vs) sm)with
   | none=>rfl
   | some xs =>
    simp only;cases con.F xs with
    | none=>rfl
    | some r =>
     simp only;cases zaJ (zc5 s sm (zD con.ins vs) (zB con.ins vs) (zaH sm con.ins vs r.2)) site con.outs r.1 with
     | none=>rfl
     | some q =>
      obtain⟨l,s1⟩:=q;simp only;cases zO s1 (site+zW con.outs) con.ins vs r.2 with
      | none=>rfl
      | some s2=>rfl
theorem zin {α:Type} {c:Call} {K:St→Option α}:zc1 E site s o c K=(zc1 E site s o c some).bind K:=by
 unfold zc1;split
 ·split
  ·exact zik
  ·rfl
 ·rfl
theorem zgX {α:Type} {K:St→Option α}:doT E site s o K=(doT E site s o some).bind K:=by
 have h:(match zaI E site s o with
   | some (ok,s')=>bif ok then K s' else none
   | none=>none)=(match zaI E site s o with
   | some (ok,s')=>bif ok then some s' else none
   | none=>none).bind K:=by
  cases zaI E site s o with
  | none=>rfl
  | some p =>
   obtain⟨ok,s'⟩:=p;cases ok<;>rfl
 unfold doT;split
 ·cases zbF o with
  | true=>exact zin
  | false=>exact h
 ·exact h
def zbS:List Par→Nat
 | []=>0
 | .pt t _::ps=>t.size+zbS ps
 | _::ps=>zbS ps
def zbn (E:Env) (o:Oper):Bool :=
 match o.op with
 | .call c=>(match c.callee with
  | .value (.func f)=>(match E.G f with
   | some con=>Nat.ble (zW con.outs+zbS con.ins) 64
   | none=>true)
  | .value (.tmp _)=>false
  | _=>true)
 | _=>true
theorem ze7: ∀{cs:List C},∀k∈zS cs,∃c∈cs,k∈c.refs
 | [],k,h=>by simp[zS]at h
 | c::cs,k,h=>by
  have rec':k∈zS cs→ ∃c'∈c::cs,k∈c'.refs:=fun h=>by
   obtain⟨c',h1,h2⟩:=ze7 k h;exact⟨c',by simp[h1],h2⟩
  cases c with
  | «at» j =>
   simp only[zS,List.mem_cons]at h;rcases h with rfl | h
   ·exact⟨.at k,by simp,by simp[C.refs]⟩
   ·exact rec' h
  | _=>exact rec' h
theorem ze8: ∀{ps:List Par} {vs:List V},∀k∈zD ps vs,∃v∈vs,k∈v.refs
 | [],[],k,h=>by simp[zD]at h
 | [],_::_,k,h=>by simp[zD]at h
 | p::ps,[],k,h=>by cases p<;>simp[zD]at h
 | p::ps,v::vs,k,h=>by
  have rec':k∈zD ps vs→ ∃v'∈v::vs,k∈v'.refs:=fun h=>by
   obtain⟨v',h1,h2⟩:=ze8 k h;exact⟨v',by simp[h1],h2⟩
  cases p with
  | mt t a =>
   simp only[zD,List.mem_append]at h;rcases h with h | h
   ·cases hc:zy t.isSt v with
    | none=>rw[hc]at h; simp at h
    | some cs =>
     rw[hc]at h;obtain⟨c,h1,h2⟩:=ze7 k h;exact⟨v,by simp,zbl hc c h1 k h2⟩
   ·exact rec' h
  | _=>exact rec' h
theorem zfB: ∀{ps:List Par} {vs:List V},∀k∈zB ps vs,∃v∈vs,k∈v.refs
 | [],[],k,h=>by simp[zB]at h
 | [],_::_,k,h=>by simp[zB]at h
 | p::ps,[],k,h=>by cases p<;>simp[zB]at h
 | p::ps,v::vs,k,h=>by
  have rec':k∈zB ps vs→ ∃v'∈v::vs,k∈v'.refs:=fun h=>by
   obtain⟨v',h1,h2⟩:=zfB k h;exact⟨v',by simp[h1],h2⟩
  cases p with
  | pt t a =>
   cases v with
   | c x =>
    cases x with
    | ptr j off =>
     simp only[zB,List.mem_cons]at h;rcases h with rfl | h
     ·exact⟨.c (.ptr k off),by simp,by simp[V.refs,C.refs]⟩
     ·exact rec' h
    | _=>exact rec' h
   | _=>exact rec' h
  | _=>exact rec' h
theorem zfA: ∀{as:List Ann} {cs:List C} {ds:List LD},(∀c∈cs,∀k∈c.refs,K k=true)→zaZ (zm K sh uh) as cs ds=zaZ sh as cs ds
  | [],cs,ds,_=>by cases cs<;>cases ds<;>rfl
  | a::as,[],ds,_=>by cases a<;>cases ds<;>rfl
  | a::as,c::cs,[],_=>by cases a<;>cases c<;>rfl
  | a::as,c::cs,d::ds,h=>by
    have ih:=zfA (as:=as) (cs:=cs) (ds:=ds) (fun c hc=>h c (by simp[hc]))
    cases a<;>cases c<;>cases d<;>first
      | exact ih
      | (have hk:=h _ List.mem_cons_self _ List.mem_cons_self
         simp only[zaZ,ih,zK hk])
theorem zbk: ∀{ps:List Par} {vs:List V} {m:zak ps},(∀v∈vs,∀k∈v.refs,K k=true)→zaH (zm K sh uh) ps vs m=zaH sh ps vs m
 | [],[],_,_=>rfl
 | [],_::_,_,_=>rfl
 | .rd _::_,[],_,_=>rfl
 | .kp _ _::_,[],_,_=>rfl
 | .fn _ _::_,[],_,_=>rfl
 | .rp _::_,[],_,_=>rfl
 | .mt _ _::_,[],_,_=>rfl
 | .pt _ _::_,[],_,_=>rfl
 | .rd _::ps,_::vs,m,h=>zbk (ps:=ps) (vs:=vs) (m:=m) (fun v hv=>h v (by simp[hv]))
 | .fn _ _::ps,_::vs,m,h=>zbk (ps:=ps) (vs:=vs) (m:=m) (fun v hv=>h v (by simp[hv]))
 | .rp _::ps,_::vs,m,h=>zbk (ps:=ps) (vs:=vs) (m:=m) (fun v hv=>h v (by simp[hv]))
 | .kp _ _::ps,_::vs,m,h=>zbk (ps:=ps) (vs:=vs) (m:=m) (fun v hv=>h v (by simp[hv]))
 | .pt _ _::ps,_::vs,m,h=>zbk (ps:=ps) (vs:=vs) (m:=m.2) (fun v hv=>h v (by simp[hv]))
 | .mt t a::ps,v::vs,m,h=>by
  simp only[zaH];rw[zbk (ps:=ps) (vs:=vs) (m:=m.2) (fun v hv=>h v (by simp[hv]))];cases hc:zy t.isSt v with
  | none=>rfl
  | some cs=>simp only; rw[zfA (fun c hc' k hk=>h v (by simp) k (zbl hc c hc' k hk))]
theorem zbj: ∀{ps:List Par} {vs:List V} {m:zak ps} {s:St} {key:Nat},(∀v∈vs,∀k∈v.refs,K k=true)→(∀j,key≤j→j<key+zbS ps→K j=true) →
  zO (zp T K s u) key ps vs m=(zO s key ps vs m).map (zp T K · u)
 | [],[],_,_,_,_,_=>rfl
 | [],_::_,_,_,_,_,_=>rfl
 | .rd _::_,[],_,_,_,_,_=>rfl
 | .kp _ _::_,[],_,_,_,_,_=>rfl
 | .fn _ _::_,[],_,_,_,_,_=>rfl
 | .rp _::_,[],_,_,_,_,_=>rfl
 | .mt _ _::_,[],_,_,_,_,_=>rfl
 | .pt _ _::_,[],_,_,_,_,_=>rfl
 | .rd _::ps,_::vs,m,s,key,h,hk=>zbj (ps:=ps) (vs:=vs) (m:=m) (fun v hv=>h v (by simp[hv])) hk
 | .fn _ _::ps,_::vs,m,s,key,h,hk=>zbj (ps:=ps) (vs:=vs) (m:=m) (fun v hv=>h v (by simp[hv])) hk
 | .rp _::ps,_::vs,m,s,key,h,hk=>zbj (ps:=ps) (vs:=vs) (m:=m) (fun v hv=>h v (by simp[hv])) hk
 | .kp _ _::ps,_::vs,m,s,key,h,hk=>zbj (ps:=ps) (vs:=vs) (m:=m) (fun v hv=>h v (by simp[hv])) hk
 | .mt _ _::ps,_::vs,m,s,key,h,hk=>zbj (ps:=ps) (vs:=vs) (m:=m.2) (fun v hv=>h v (by simp[hv])) hk
 | .pt t a::ps,v::vs,m,s,key,h,hk=>by
  simp only[zbS]at hk;simp only[zO];cases v with
  | c x =>
   cases x with
   | ptr k off =>
    simp only;refine zdw _ ?_;have hl:(t.flat m.1).length=t.size:=zao _ _;rw[zbm (fun j h1 h2=>hk j h1 (by rw[hl]at h2; omega))];cases zo s key (t.flat m.1) (a.flat t)with
    | none=>rfl
    | some q =>
     obtain⟨cs,s1⟩:=q;simp only[Option.map_some,zdT];have hkk:K k=true:=h _ List.mem_cons_self k List.mem_cons_self
     rw[show({ zp T K s1 u with sh:={ (zp T K s1 u).sh with boxes:=zg (zp T K s1 u).sh.boxes k (some cs) } }:St)=zp T K { s1 with sh:={ s1.sh with boxes:=zg s1.sh.boxes k (some cs) } } u by
      show({ nt:=s1.nt,tmps:=_,sh:={ zm K s1.sh u.sh with boxes:=zg (zm K s1.sh u.sh).boxes k _ },used:=_ }:St)=_
      rw[zew hkk]; rfl]
     exact zbj (ps:=ps) (vs:=vs) (m:=m.2) (fun v hv=>h v (List.mem_cons_of_mem _ hv)) (fun j h1 h2=>hk j (by omega) (by omega))
   | _=>rfl
  | _=>rfl
theorem zh3 {ks:List Nat} (h: ∀k∈ks,K k=true):zaa ks (zm K sh uh)=zm K (zaa ks sh) uh:=by
 unfold zaa zm;congr 1;funext j;show(bif zr j ks then none else zal K sh.regs uh.regs j)=zal K _ uh.regs j;cases hK:K j with
 | true=>rw[z7 hK,z7 hK]
 | false =>
  have:zr j ks=false:=by
   cases hm:zr j ks with
   | false=>rfl
   | true=>rw[h j (zq.1 hm)]at hK; simp at hK
  rw[zU hK,zU hK,this]; rfl
theorem zjg {sm:Sh} {lent bxs:List Nat} {back:List (Nat×Entry)} (hl: ∀k∈lent,K k=true) (hb: ∀k∈bxs,K k=true) :
  zc5 (zp T K s u) (zm K sm u.sh) lent bxs back=zp T K (zc5 s sm lent bxs back) u:=by
 have h1:zb6 (zm K sm u.sh) (fun j=>zr j lent) (fun j=>zr j bxs) (zcq back) (zbG (zm K sm u.sh))=zm K (zb6 sm (fun j=>zr j lent) (fun j=>zr j bxs) (zcq back) (zbG sm)) u.sh:=by
  unfold zb6 zm;congr 1
  ·funext j
   show(bif zr j bxs then some (zbG (zm K sm u.sh) j)else zal K sm.boxes u.sh.boxes j)=zal K _ u.sh.boxes j;cases hK:K j with
   | true =>
    rw[z7 hK,z7 hK];unfold zbG;rw[zbR hK]
   | false =>
    have:zr j bxs=false:=by
     cases hm:zr j bxs with
     | false=>rfl
     | true=>rw[hb j (zq.1 hm)]at hK; simp at hK
    rw[zU hK,zU hK,this]; rfl
  ·funext j
   show(bif zr j lent then some (zcq back j)else zal K sm.regs u.sh.regs j)=zal K _ u.sh.regs j;cases hK:K j with
   | true=>rw[z7 hK,z7 hK]
   | false =>
    have:zr j lent=false:=by
     cases hm:zr j lent with
     | false=>rfl
     | true=>rw[hl j (zq.1 hm)]at hK; simp at hK
    rw[zU hK,zU hK,this]; rfl
 unfold zc5;rw[h1]; rfl
theorem zi1 {dst:Option Nat} {con:Con} {vs:List V} (hka: ∀v∈vs,∀k∈v.refs,K k=true) (hkb: ∀v∈vs,∀k∈v.refs,∀cs,s.sh.boxes k=some cs→ ∀c∈cs,∀j∈c.refs,K j=true)
  (hs: ∀j,site≤j→j<site+64→K j=true) (hfit:zW con.outs+zbS con.ins≤64) (hd: ∀d,dst=some d→T d=true) :
  zb0 site (zp T K s u) dst con vs some=(zb0 site s dst con vs some).map (zp T K · u):=by
 unfold zb0;rw[show(zp T K s u).sh=zm K s.sh u.sh from rfl]
 have hlk: ∀k∈zD con.ins vs,K k=true:=fun k hk=>by
  obtain⟨v,h1,h2⟩:=ze8 k hk; exact hka v h1 k h2
 have hbk: ∀k∈zB con.ins vs,K k=true:=fun k hk=>by
  obtain⟨v,h1,h2⟩:=zfB k hk; exact hka v h1 k h2
 rcases zbi (ps:=con.ins) (vs:=vs) (sh:=s.sh) (uh:=u.sh) hka hkb with⟨h1,h2⟩ | ⟨k,k2,sh1,h1,h2,_,h3⟩
 ·rw[h1,h2]; rfl
 ·rw[h1,h2]
  simp only;refine zdw _ ?_;rw[zh3 hlk,h3];cases k sh1 (zaa (zD con.ins vs) sh1)with
  | none=>rfl
  | some xs =>
   simp only;cases con.F xs with
   | none=>rfl
   | some r =>
    simp only;rw[zbk hka,zjg hlk hbk,zfw (fun j h1 h2=>hs j h1 (by omega))];cases zaJ (zc5 s sh1 (zD con.ins vs) (zB con.ins vs) (zaH sh1 con.ins vs r.2)) site con.outs r.1 with
    | none=>rfl
    | some q =>
     obtain⟨l,s1⟩:=q;simp only[Option.map_some,zdT];rw[zbj hka (fun j h1 h2=>hs j (by omega) (by omega))];cases zO s1 (site+zW con.outs) con.ins vs r.2 with
     | none=>rfl
     | some s2 =>
      simp only[Option.map_some];rw[zhp hd]
theorem zh8 (h:Sees T K s o site) (hs: ∀j,site≤j→j<site+64→K j=true) (hf:zbn E o=true):doT E site (zp T K s u) o some=(doT E site s o some).map (zp T K · u):=by
 have hst:(match zaI E site (zp T K s u) o with
   | some (ok,s')=>bif ok then some s' else none
   | none=>none)=(match zaI E site s o with
   | some (ok,s')=>bif ok then some s' else none
   | none=>none).map (zp T K · u):=by
  rw[zjs h];cases zaI E site s o with
  | none=>rfl
  | some p =>
   obtain⟨ok,s'⟩:=p;cases ok<;>rfl
 unfold doT;split
 ·rename_i c hop
  cases hc:zbF o with
  | false=>exact hst
  | true =>
   simp only[cond_true];obtain⟨ht,hk,hd,_,hbs⟩:=h;simp only[zcS,hop,cond_false]at hk;rw[← hop]at hk;have hbs:=hbs hc;unfold zc1;rw[hop]at ht hk hbs;simp only[Op.operands]at ht hk hbs
   have hcal:zae (zp T K s u) c.callee=zae s c.callee∧ ∀f ex,zae s c.callee=some (f,ex)→(∀x∈c.args.toList,x∈c.operands.toList)∧ ∀v∈ex,v.refs= []:=by
    cases hcal:c.callee with
    | builtin b=>exact⟨rfl,fun f ex e=>by simp[zae]at e⟩
    | invoke r m=>exact⟨rfl,fun f ex e=>by simp[zae]at e⟩
    | value y =>
     have hin: ∀x∈c.args.toList,x∈c.operands.toList:=fun x hx=>by simp[Call.operands,hcal]; exact .inr (by simpa using hx)
     cases y with
     | func f=>exact⟨rfl,fun f' ex e=>by simp[zae]at e; obtain⟨_,rfl⟩:=e; exact⟨hin,by simp⟩⟩
     | tmp i =>
      have hy:inT T (.tmp i)=true:=ht (.tmp i) (by simp[Call.operands,hcal]);refine⟨?_,fun f' ex e=>⟨hin,?_⟩⟩
      ·simp only[zae,zk hy]
      ·simp only[zae]at e
       split at e
       ·simp at e; obtain⟨_,rfl⟩:=e
        intro v hv;simp at hv; subst hv; rfl
       ·simp at e
     | const v=>exact⟨rfl,fun f ex e=>by simp[zae]at e⟩
     | «global» v=>exact⟨rfl,fun f ex e=>by simp[zae]at e⟩
   rw[hcal.1]
   have hf2: ∀f ex con,zae s c.callee=some (f,ex)→E.G f=some con→zW con.outs+zbS con.ins≤64:=by
    intro f ex con h1 h2;unfold zbn at hf;rw[hop]at hf;simp only at hf;unfold zae at h1;split at h1
    ·rename_i hcl
     simp at h1; obtain⟨rfl,_⟩:=h1;rw[hcl]at hf;simp only[h2]at hf;exact Nat.le_of_ble_eq_true hf
    ·rename_i hcl
     rw[hcl]at hf; simp at hf
    ·simp at h1
   cases hce:zae s c.callee with
   | none=>rfl
   | some fe =>
    obtain⟨f,ex⟩:=fe;simp only;obtain⟨hin,hex⟩:=hcal.2 f ex hce;have ha: ∀x∈c.args.toList,inT T x=true:=fun x hx=>ht x (hin x hx)
    have hka: ∀v∈c.args.toList.map (ze s)++ex,∀k∈v.refs,K k=true:=fun v hv k hk'=>by
     rcases List.mem_append.1 hv with hv | hv
     ·simp only[List.mem_map]at hv
      obtain⟨x,hx,rfl⟩:=hv;exact hk x (hin x hx) k hk'
     ·rw[hex v hv]at hk'; simp at hk'
    have hkb: ∀v∈c.args.toList.map (ze s)++ex,∀k∈v.refs,∀cs,s.sh.boxes k=some cs→ ∀c∈cs,∀j∈c.refs,K j=true:=fun v hv k hk'=>by
     rcases List.mem_append.1 hv with hv | hv
     ·simp only[List.mem_map]at hv
      obtain⟨x,hx,rfl⟩:=hv;exact hbs x (hin x hx) k hk'
     ·rw[hex v hv]at hk'; simp at hk'
    cases hcon:E.G f with
    | none=>rfl
    | some con =>
     simp only;rw[zfu ha];exact zi1 hka hkb hs (hf2 f ex con hce hcon) hd
 ·exact hst
end
def zb9:List Par→Bool
 | []=>true
 | .rd _::ps=>zb9 ps
 | .fn _ _::ps=>zb9 ps
 | .rp _::ps=>zb9 ps
 | _=>false
def za2 (E:Env) (o:Oper):Bool :=
 match o.op with
 | .store _ _ _=>false
 | .buildSlice _ _ _=>false
 | .call c=>match c.callee with
  | .builtin .append=>false
  | .builtin .copy=>false
  | .builtin .clear=>false
  | .builtin _=>true
  | .value (.func f)=>(match E.G f with
   | some con=>zb9 con.ins&&Nat.ble (zW con.outs) 64
   | none=>true)
  | .value _=>false
  | _=>true
 | _=>true
def zdE (s:St) (o:Oper):Bool :=
 match o.op with
 | .call c=>match c.callee,c.args.toList with
  | .builtin .append,[x,y]=>(match ze s x,ze s y with
   | .c .nil,.c (.at _)=>false
   | .c .nil,_=>true
   | _,_=>false)
  | _,_=>false
 | _=>false
def zjz (s:St) (o:Oper):Option Nat :=
 match o.op with
 | .call c=>match c.callee,c.args.toList with
  | .builtin .append,[x,y]=>(match ze s x,ze s y with
   | .c (.at _),.c (.at _)=>none
   | .c (.at j),_=>some j
   | _,_=>none)
  | _,_=>none
 | _=>none
def zbt (E:Env) (s:St) (o:Oper):Bool:=za2 E o||zdE s o
structure Same (lo:Nat) (s s':St):Prop where
 nt:s'.nt=s.nt
 tm:s'.tmps=s.tmps
 key: ∀k,k<lo∨lo+64≤k→s'.sh.boxes k=s.sh.boxes k∧s'.sh.regs k=s.sh.regs k∧s'.used k=s.used k
section
variable {s s':St} {E:Env} {o:Oper} {site:Nat}
theorem Same.refl (lo:Nat) (s:St):Same lo s s:=⟨rfl,rfl,fun _ _=>⟨rfl,rfl,rfl⟩⟩
theorem Same.trans {lo:Nat} {a b c:St} (h1:Same lo a b) (h2:Same lo b c):Same lo a c :=⟨h2.nt.trans h1.nt,h2.tm.trans h1.tm,fun k hk=>⟨(h2.key k hk).1.trans (h1.key k hk).1,(h2.key k hk).2.1.trans (h1.key k hk).2.1,(h2.key k hk).2.2.trans (h1.key k hk).2.2⟩⟩
theorem zbI {lo key:Nat} {pk:Pk} (h1:lo≤key) (h2:key<lo+64) (e:zV s key pk=some s'):Same lo s s':=by
 unfold zV at e;cases hu:s.used key with
 | true=>rw[hu]at e; simp at e
 | false =>
  rw[hu]at e; simp at e; subst e;exact⟨rfl,rfl,fun k hk=>⟨rfl,zt _ _ (by omega),zt _ _ (by omega)⟩⟩
theorem zbH {lo:Nat} {cs:List C} (e:zQ s lo cs=some s'):Same lo s s':=by
 unfold zQ at e;cases hu:s.used lo with
 | true=>rw[hu]at e; simp at e
 | false =>
  rw[hu]at e; simp at e; subst e;exact⟨rfl,rfl,fun k hk=>⟨zt _ _ (by omega),rfl,zt _ _ (by omega)⟩⟩
theorem za9 {lo:Nat}: ∀{ds:List LD} {as:List Ann} {s s':St} {key:Nat} {cs:List C},lo≤key→key+ds.length≤lo+64→zo s key ds as=some (cs,s')→Same lo s s'
 | [],[],s,s',key,cs,_,_,e=>by simp[zo]at e; obtain⟨_,rfl⟩:=e; exact Same.refl _ _
 | [],_::_,_,_,_,_,_,_,e=>by simp[zo]at e
 | _::_,[],_,_,_,_,_,_,e=>by simp[zo]at e
 | .int k n::ds,a::as,s,s',key,cs,h1,h2,e=>by
  simp only[zo]at e;split at e
  ·rename_i cs1 s1 he
   simp at e; obtain⟨_,rfl⟩:=e;exact za9 h1 (by simp only[List.length_cons]at h2; omega) he
  ·simp at e
 | .bool b::ds,a::as,s,s',key,cs,h1,h2,e=>by
  simp only[zo]at e;split at e
  ·rename_i cs1 s1 he
   simp at e; obtain⟨_,rfl⟩:=e;exact za9 h1 (by simp only[List.length_cons]at h2; omega) he
  ·simp at e
 | .sl t l::ds,.ow a::as,s,s',key,cs,h1,h2,e=>by
  simp only[List.length_cons]at h2;simp only[zo]at e;split at e
  ·rename_i s1 hn
   split at e
   ·rename_i cs1 s2 he
    simp at e; obtain⟨_,rfl⟩:=e;exact(zbI h1 (by omega) hn).trans (za9 (by omega) (by omega) he)
   ·simp at e
  ·simp at e
 | .sl t l::ds,.fz::as,s,s',key,cs,h1,h2,e=>by
  simp only[zo]at e;split at e
  ·rename_i cs1 s1 he
   simp at e; obtain⟨_,rfl⟩:=e;exact za9 h1 (by simp only[List.length_cons]at h2; omega) he
  ·simp at e
 | .sl t l::ds,.pr _ _::as,s,s',key,cs,h1,h2,e=>by
  simp only[zo]at e;split at e
  ·rename_i cs1 s1 he
   simp at e; obtain⟨_,rfl⟩:=e;exact za9 h1 (by simp only[List.length_cons]at h2; omega) he
  ·simp at e
theorem zhl {lo key:Nat} {cs:List C} (h1:lo≤key) (h2:key<lo+64) (e:zQ s key cs=some s'):Same lo s s':=by
 unfold zQ at e;cases hu:s.used key with
 | true=>rw[hu]at e; simp at e
 | false =>
  rw[hu]at e; simp at e; subst e;exact⟨rfl,rfl,fun k hk=>⟨zt _ _ (by omega),rfl,zt _ _ (by omega)⟩⟩
theorem zeG {lo:Nat}: ∀{os:List OT} {x:zaY os} {s s':St} {key:Nat} {l:List (Bool×List C)},lo≤key→key+zW os≤lo+64→zaJ s key os x=some (l,s')→Same lo s s'
 | [],_,s,s',key,l,_,_,e=>by simp[zaJ]at e; obtain⟨_,rfl⟩:=e; exact Same.refl _ _
 | ⟨false,t,an⟩::os,x,s,s',key,l,h1,h2,e=>by
  simp only[zW]at h2;simp only[zaJ]at e;split at e
  ·rename_i cs s1 he
   cases hb:(t.isSt||Nat.beq cs.length 1)with
   | false=>rw[hb]at e; simp at e
   | true =>
    rw[hb]at e; simp only[cond_true]at e;split at e
    ·rename_i l1 s2 hr
     simp at e; obtain⟨_,rfl⟩:=e;have hl:(t.flat x.1).length=t.size:=zao _ _;exact(za9 h1 (by rw[hl]; omega) he).trans (zeG (by omega) (by omega) hr)
    ·simp at e
  ·simp at e
 | ⟨true,t,an⟩::os,x,s,s',key,l,h1,h2,e=>by
  simp only[zW]at h2;simp only[zaJ]at e;split at e
  ·rename_i cs s1 he
   split at e
   ·rename_i s2 hb
    split at e
    ·rename_i l1 s3 hr
     simp at e; obtain⟨_,rfl⟩:=e;have hl:(t.flat x.1).length=t.size:=zao _ _;exact((za9 h1 (by rw[hl]; omega) he).trans (zhl (by omega) (by omega) hb)).trans (zeG (by omega) (by omega) hr)
    ·simp at e
   ·simp at e
  ·simp at e
structure Slots (s s':St):Prop where
 nt:s'.nt=s.nt
 tm:s'.tmps=s.tmps
theorem Slots.refl (s:St):Slots s s:=⟨rfl,rfl⟩
theorem Slots.trans {a b c:St} (h1:Slots a b) (h2:Slots b c):Slots a c:=⟨h2.nt.trans h1.nt,h2.tm.trans h1.tm⟩
theorem Same.slots {lo:Nat} (h:Same lo s s'):Slots s s':=⟨h.nt,h.tm⟩
theorem za1 {key:Nat} {pk:Pk} (e:zV s key pk=some s'):Slots s s':=(zbI (Nat.le_refl _) (by omega) e).slots
theorem zaq: ∀{ds:List LD} {as:List Ann} {s s':St} {key:Nat} {cs:List C},zo s key ds as=some (cs,s')→Slots s s'
 | [],[],s,s',key,cs,e=>by simp[zo]at e; obtain⟨_,rfl⟩:=e; exact Slots.refl _
 | [],_::_,_,_,_,_,e=>by simp[zo]at e
 | _::_,[],_,_,_,_,e=>by simp[zo]at e
 | .int k n::ds,a::as,s,s',key,cs,e=>by
  simp only[zo]at e;split at e
  ·rename_i cs1 s1 he; simp at e; obtain⟨_,rfl⟩:=e; exact zaq he
  ·simp at e
 | .bool b::ds,a::as,s,s',key,cs,e=>by
  simp only[zo]at e;split at e
  ·rename_i cs1 s1 he; simp at e; obtain⟨_,rfl⟩:=e; exact zaq he
  ·simp at e
 | .sl t l::ds,.ow a::as,s,s',key,cs,e=>by
  simp only[zo]at e;split at e
  ·rename_i s1 hn
   split at e
   ·rename_i cs1 s2 he; simp at e; obtain⟨_,rfl⟩:=e; exact(za1 hn).trans (zaq he)
   ·simp at e
  ·simp at e
 | .sl t l::ds,.fz::as,s,s',key,cs,e=>by
  simp only[zo]at e;split at e
  ·rename_i cs1 s1 he; simp at e; obtain⟨_,rfl⟩:=e; exact zaq he
  ·simp at e
 | .sl t l::ds,.pr _ _::as,s,s',key,cs,e=>by
  simp only[zo]at e;split at e
  ·rename_i cs1 s1 he; simp at e; obtain⟨_,rfl⟩:=e; exact zaq he
  ·simp at e
theorem zg4 {ds:List LD} {as:List Ann} {s s':St} {key:Nat} {cs:List C} (e:zo s key ds as=some (cs,s')):s'.nt=s.nt∧s'.tmps=s.tmps:=⟨(zaq e).nt,(zaq e).tm⟩
theorem zcB: ∀{ps:List Par} {vs:List V} {sh sh':Sh} {k:Sh→Sh→Option (InD ps)},zb9 ps=true→zw sh ps vs=some (k,sh')→sh'=sh∧zD ps vs= []∧zB ps vs= [] ∧
  ∀(m:zak ps) (s s':St) (key:Nat),zO s key ps vs m=some s'→s'=s
 | [],[],sh,sh',k,_,e=>by
  simp[zw]at e;exact⟨e.2.symm,rfl,rfl,fun m s s' key h=>by simp[zO]at h; exact h.symm⟩
 | [],_::_,_,_,_,_,e=>by simp[zw]at e
 | .rd t::ps,[],_,_,_,_,e=>by simp[zw]at e
 | .rd t::ps,v::vs,sh,sh',k,h,e=>by
  simp only[zw]at e;split at e
  ·rename_i cs k1 sh1 hc ha
   simp only[Option.some.injEq,Prod.mk.injEq]at e;obtain⟨_,rfl⟩:=e;obtain⟨h1,h2,h3,h4⟩:=zcB (ps:=ps) h ha;exact⟨h1,h2,h3,fun m s s' key hb=>h4 m s s' key hb⟩
  ·simp at e
 | .fn _ _::ps,[],_,_,_,_,e=>by simp[zw]at e
 | .fn i t::ps,v::vs,sh,sh',k,h,e=>by
  simp only[zw]at e;split at e
  ·rename_i cs k1 sh1 hc ha
   simp only[Option.some.injEq,Prod.mk.injEq]at e;obtain⟨_,rfl⟩:=e;obtain⟨h1,h2,h3,h4⟩:=zcB (ps:=ps) h ha;exact⟨h1,h2,h3,fun m s s' key hb=>h4 m s s' key hb⟩
  ·simp at e
 | .rp _::ps,[],_,_,_,_,e=>by simp[zw]at e
 | .rp t::ps,v::vs,sh,sh',k,h,e=>by
  simp only[zw]at e;split at e
  ·rename_i cs k1 sh1 hc ha
   simp only[Option.some.injEq,Prod.mk.injEq]at e;obtain⟨_,rfl⟩:=e;obtain⟨h1,h2,h3,h4⟩:=zcB (ps:=ps) h ha;exact⟨h1,h2,h3,fun m s s' key hb=>h4 m s s' key hb⟩
  ·simp at e
 | .kp _ _::_,_,_,_,_,h,_=>by simp[zb9]at h
 | .mt _ _::_,_,_,_,_,h,_=>by simp[zb9]at h
 | .pt _ _::_,_,_,_,_,h,_=>by simp[zb9]at h
theorem zaQ: ∀{ps:List Par} {vs:List V} {m:zak ps} {s s':St} {key:Nat},zO s key ps vs m=some s'→s'.nt=s.nt∧s'.tmps=s.tmps
 | [],[],_,s,s',key,e=>by simp[zO]at e; subst e; exact⟨rfl,rfl⟩
 | [],_::_,_,_,_,_,e=>by simp[zO]at e
 | .rd _::_,[],_,_,_,_,e=>by simp[zO]at e
 | .kp _ _::_,[],_,_,_,_,e=>by simp[zO]at e
 | .fn _ _::_,[],_,_,_,_,e=>by simp[zO]at e
 | .rp _::_,[],_,_,_,_,e=>by simp[zO]at e
 | .mt _ _::_,[],_,_,_,_,e=>by simp[zO]at e
 | .pt _ _::_,[],_,_,_,_,e=>by simp[zO]at e
 | .rd _::ps,_::vs,m,s,s',key,e=>zaQ (ps:=ps) (m:=m) e
 | .kp _ _::ps,_::vs,m,s,s',key,e=>zaQ (ps:=ps) (m:=m) e
 | .fn _ _::ps,_::vs,m,s,s',key,e=>zaQ (ps:=ps) (m:=m) e
 | .rp _::ps,_::vs,m,s,s',key,e=>zaQ (ps:=ps) (m:=m) e
 | .mt _ _::ps,_::vs,m,s,s',key,e=>zaQ (ps:=ps) (m:=m.2) e
 | .pt t a::ps,v::vs,m,s,s',key,e=>by
  simp only[zO]at e;split at e
  ·rename_i k off
   cases hoff:Nat.beq off 0 with
   | false=>rw[hoff]at e; simp at e
   | true =>
    rw[hoff]at e; simp only[cond_true]at e;split at e
    ·rename_i cs s1 he
     have h1:=zaQ (ps:=ps) (m:=m.2) e;have h2:=zg4 he;exact⟨h1.1.trans h2.1,h1.2.trans h2.2⟩
    ·simp at e
  ·simp at e
theorem zd4: ∀{os:List OT} {x:zaY os} {s s':St} {key:Nat} {l:List (Bool×List C)},zaJ s key os x=some (l,s')→Slots s s'
 | [],_,s,s',key,l,e=>by simp[zaJ]at e; obtain⟨_,rfl⟩:=e; exact Slots.refl _
 | ⟨false,t,an⟩::os,x,s,s',key,l,e=>by
  simp only[zaJ]at e;split at e
  ·rename_i cs s1 he
   cases hb:(t.isSt||Nat.beq cs.length 1)with
   | false=>rw[hb]at e; simp at e
   | true =>
    rw[hb]at e; simp only[cond_true]at e;split at e
    ·rename_i l1 s2 hr
     simp at e; obtain⟨_,rfl⟩:=e;exact(zaq he).trans (zd4 hr)
    ·simp at e
  ·simp at e
 | ⟨true,t,an⟩::os,x,s,s',key,l,e=>by
  simp only[zaJ]at e;split at e
  ·rename_i cs s1 he
   split at e
   ·rename_i s2 hb
    split at e
    ·rename_i l1 s3 hr
     simp at e; obtain⟨_,rfl⟩:=e;exact((zaq he).trans (zbH hb).slots).trans (zd4 hr)
    ·simp at e
   ·simp at e
  ·simp at e
theorem zhz {c:C} {ds:List C} (e:zX s c ds=some s'):Slots s s':=by
 cases c<;>simp only[zX]at e
 case ptr k off =>
  cases hbx:s.sh.boxes k with
  | none=>rw[hbx]at e; simp at e
  | some cs =>
   rw[hbx]at e; simp only at e;cases hb:Nat.ble (off+ds.length) cs.length with
   | true=>rw[hb]at e; simp at e; subst e; exact⟨rfl,rfl⟩
   | false=>rw[hb]at e; simp at e
 case eo k ver p q i off =>
  split at e
  ·rename_i lds sh1 _
   cases hr:sh1.regs k with
   | none=>rw[hr]at e; simp at e
   | some en =>
    rw[hr]at e; simp only at e;cases hb:Nat.beq en.ver ver with
    | false=>rw[hb]at e; simp at e
    | true =>
     rw[hb]at e; simp only[cond_true]at e;split at e
     ·split at e
      ·simp at e; subst e; exact⟨rfl,rfl⟩
      ·simp at e
     ·simp at e
  ·simp at e
 all_goals simp at e
theorem zeD {t:Ty} {k lo:Nat} {m:List t.D} (e:zbL s t k lo m=some s'):Slots s s':=by
 obtain⟨en,_,_,_,rfl⟩:=zd2 e;exact⟨rfl,rfl⟩
theorem zcV {t:Ty} {an:Ann} {l:List t.D} {c:C} {ok:Bool} (e:zbs E s site t an l c=some (ok,s')):Slots s s':=by
 unfold zbs at e;split at e
 ·split at e
  ·rename_i s2 hn
   simp at e; obtain⟨_,rfl⟩:=e;exact⟨(za1 hn).nt,(za1 hn).tm⟩
  ·simp at e
 ·simp at e
theorem zgy {t:Ty} {c d:C} {ok:Bool} (e:zaL E s site t c d=some (ok,s')):Slots s s':=by
 cases c<;>simp only[zaL]at e
 case nil=>exact zcV e
 case «at» k =>
  cases hr:s.sh.regs k with
  | none=>rw[hr]at e; simp at e
  | some en =>
   rw[hr]at e; simp only at e;cases hb:(Nat.beq en.pk.t.size t.size&&Nat.beq en.pk.t.bytes t.bytes)with
   | false=>rw[hb]at e; simp at e
   | true =>
    rw[hb]at e; simp only[cond_true]at e;exact⟨(zcV e).nt,(zcV e).tm⟩
 all_goals simp at e
theorem zie {sh sh':Sh} {u:Ty} {an:Ann} {c:C} {l:List u.D} (e:zaK sh u an c=some (l,sh')) (h: ∀k,c≠ .at k):sh'=sh:=by
 cases c<;>simp only[zaK]at e
 case «at» k=>exact absurd rfl (h k)
 case nil=>simp at e; exact e.2.symm
 case fz t l2 =>
  cases hb:zC (an.flat u)with
  | false=>rw[hb]at e; simp at e
  | true =>
   rw[hb]at e; simp only[cond_true]at e;split at e
   ·simp at e; exact e.2.symm
   ·simp at e
 case br t l2 =>
  cases hb:u.noSl with
  | false=>rw[hb]at e; simp at e
  | true =>
   rw[hb]at e; simp only[cond_true]at e;split at e
   ·simp at e; exact e.2.symm
   ·simp at e
 case nd k ver p q =>
  split at e
  ·rename_i en _
   cases hb:(Nat.beq en.ver ver&&zC (an.flat u)&&zC (q.a.flat q.t))with
   | false=>rw[hb]at e; simp at e
   | true =>
    rw[hb]at e; simp only[cond_true]at e;split at e
    ·simp at e; exact e.2.symm
    ·simp at e
  ·simp at e
 case vw k ver lo hi =>
  split at e
  ·rename_i en _
   cases hb:(Nat.beq en.ver ver&&zC (an.flat u)&&zC (en.pk.a.flat en.pk.t))with
   | false=>rw[hb]at e; simp at e
   | true =>
    rw[hb]at e; simp only[cond_true]at e;split at e
    ·simp at e; exact e.2.symm
    ·simp at e
  ·simp at e
 all_goals simp at e
theorem zgN {t:Ty} {d:C} {ok:Bool} (h: ∀k,d≠ .at k) (e:zaL E s site t .nil d=some (ok,s')):Same site s s':=by
 simp only[zaL]at e;unfold zbs at e;split at e
 ·rename_i l2 sh hs
  split at e
  ·rename_i s2 hn
   simp at e; obtain⟨_,rfl⟩:=e;have:=zie hs h;subst this;exact zbI (Nat.le_refl _) (by omega) hn
  ·simp at e
 ·simp at e
def zgI (E:Env) (site:Nat) (o:Oper) (s s':St):Prop:= ∃s1 v,s'=s1.putO o.dst v∧Slots s s1∧(zbt E s o=true→Same site s s1)
theorem zjF {v:V}:zgI E site o s (s.putO o.dst v):=⟨s,v,rfl,Slots.refl s,fun _=>Same.refl _ _⟩
theorem ziS {ok:Bool} (e:zaI E site s o=some (ok,s')):zgI E site o s s':=by
 have put: ∀{v:V} {ok':Bool},some (ok',s.putO o.dst v)=some (ok,s')→zgI E site o s s':=by
  intro v ok' h;simp at h; obtain⟨_,rfl⟩:=h; exact zjF
 unfold zaI at e;split at e
 ·exact put e
 ·exact put e
 ·split at e
  ·exact put e
  ·simp at e
 ·split at e
  ·split at e
   ·exact put e
   ·simp at e
  ·simp at e
 ·split at e
  ·split at e
   ·rename_i s1 hs
    simp at e; obtain⟨_,rfl⟩:=e;exact⟨s1,_,rfl,(zbH hs).slots,fun _=>zbH hs⟩
   ·simp at e
  ·simp at e
 ·split at e
  ·split at e
   ·rename_i s1 hs
    simp at e; obtain⟨_,rfl⟩:=e;exact⟨s1,_,rfl,(zbH hs).slots,fun _=>zbH hs⟩
   ·simp at e
  ·simp at e
 ·unfold zfN at e
  split at e
  ·split at e
   ·split at e
    ·simp only[Bool.cond_eq_ite]at e
     split at e
     ·exact put e
     ·simp at e
    ·simp at e
   ·simp at e
  ·simp at e
 ·rename_i t x y hop
  unfold zeJ at e;split at e
  ·split at e
   ·rename_i i _ _ _ c ds _ _
    cases hb:Nat.beq ds.length i.ty.size with
    | false=>rw[hb]at e; simp at e
    | true =>
     rw[hb]at e; simp only[cond_true]at e;split at e
     ·rename_i s1 hs
      simp at e; obtain⟨_,rfl⟩:=e;exact⟨s1,_,rfl,zhz hs,fun hq=>by simp[zbt,za2,zdE,hop]at hq⟩
     ·simp at e
   ·simp at e
  ·simp at e
 ·unfold zeo at e
  split at e
  ·split at e
   ·split at e
    ·split at e
     ·rename_i c _
      cases hb:zaW s.sh c with
      | false=>rw[hb]at e; simp at e
      | true =>
       rw[hb]at e; simp only[cond_true]at e;split at e
       ·exact put e
       ·simp at e
     ·simp at e
    ·simp at e
   ·simp at e
  ·simp at e
 ·unfold zet at e
  split at e
  ·split at e
   ·rename_i u _
    split at e
    ·split at e
     ·rename_i ok' sz c' _
      cases hb:Nat.beq sz u.size with
      | true=>rw[hb]at e; exact put e
      | false=>rw[hb]at e; simp at e
     ·simp at e
    ·simp at e
   ·simp at e
  ·simp at e
 ·unfold zdq at e
  split at e
  ·split at e
   ·split at e
    ·split at e
     ·rename_i fo n ag _ _ cs _
      cases hb:(Nat.ble (fo+n) cs.length&&(ag||Nat.beq n 1))with
      | false=>rw[hb]at e; simp at e
      | true=>rw[hb]at e; exact put e
     ·simp at e
    ·simp at e
   ·simp at e
  ·simp at e
 ·unfold zei at e
  split at e
  ·split at e
   ·split at e
    ·exact put e
    ·simp at e
   ·simp at e
  ·simp at e
 ·rename_i t n ps hop
  unfold zbD at e;split at e
  ·split at e
   ·rename_i u _
    cases hb:(Nat.blt 0 u.size&&Nat.beq ps.toList.length n&&Nat.ble (n*u.size) 16777216&&Nat.ble (n*u.bytes) 140737488355328)with
    | false=>rw[hb]at e; simp at e
    | true =>
     rw[hb]at e; simp only[cond_true]at e;split at e
     ·split at e
      ·rename_i s1 hs
       simp at e; obtain⟨_,rfl⟩:=e;exact⟨s1,_,rfl,⟨(za1 hs).nt,(za1 hs).tm⟩,fun hq=>by simp[zbt,za2,zdE,hop]at hq⟩
      ·simp at e
     ·simp at e
   ·simp at e
  ·simp at e
 ·rename_i t x y hop
  unfold zfO at e;split at e
  ·split at e
   ·rename_i u _
    cases hb:(Nat.blt 0 u.size&&Nat.blt 0 u.bytes&&zcW x y)with
    | false=>rw[hb]at e; simp at e
    | true =>
     rw[hb]at e; simp only[cond_true]at e;split at e
     ·split at e
      ·rename_i s1 hs
       simp at e; obtain⟨_,rfl⟩:=e;exact⟨s1,_,rfl,za1 hs,fun _=>zbI (Nat.le_refl _) (by omega) hs⟩
      ·simp at e
     ·simp at e
   ·simp at e
  ·simp at e
 ·unfold zgV at e
  split at e
  ·split at e
   ·rename_i u _
    split at e
    ·rename_i c _
     split at e
     ·split at e
      ·cases hb:Nat.beq (zcg s.sh c) u.size with
       | false=>rw[hb]at e; simp at e
       | true =>
        rw[hb]at e; simp only[cond_true]at e;split at e
        ·exact put e
        ·simp at e
      ·simp at e
     ·simp at e
    ·simp at e
   ·simp at e
  ·simp at e
 ·unfold zgP at e
  split at e
  ·split at e
   ·exact put e
   ·simp at e
  ·split at e
   ·split at e
    ·exact put e
    ·exact put e
    ·simp at e
   ·simp at e
  ·split at e
   ·rename_i i _
    cases hq:i.eqs with
    | false=>rw[hq]at e; simp at e
    | true =>
     rw[hq]at e; simp only[cond_true]at e;split at e
     ·exact put e
     ·exact put e
     ·simp at e
   ·simp at e
  ·simp at e
 ·unfold unT at e
  split at e
  ·exact put e
  ·exact put e
  ·simp at e
 ·unfold zfE at e
  split at e
  ·split at e
   ·exact put e
   ·simp at e
  ·simp at e
 ·split at e
  ·split at e
   ·exact put e
   ·simp at e
  ·simp at e
 ·split at e
  ·exact put e
  ·simp at e
 ·rename_i c hop
  split at e
  ·rename_i b hcal
   generalize hargs:c.args.toList=args at e;generalize c.argTypes.toList=ts at e;unfold zce at e;split at e
   ·unfold zhh at e
    split at e
    ·split at e
     ·split at e
      ·rename_i c _
       split at e
       ·cases hb:Nat.blt 0 (za4 s.sh c)with
        | true=>rw[hb]at e; exact put e
        | false=>rw[hb]at e; simp at e
       ·simp at e
      ·simp at e
     ·simp at e
    ·simp at e
   ·rename_i x y t t2
    have hq:za2 E o=false:=by simp[za2,hop,hcal]
    cases hb:Nat.beq t t2 with
    | false=>rw[hb]at e; simp at e
    | true =>
     rw[hb]at e; simp only[cond_true]at e;unfold zf6 at e;split at e
     ·split at e
      ·rename_i u _
       cases hb:(Nat.beq o.type t&&Nat.blt 0 u.size&&Nat.blt 0 u.bytes)with
       | false=>rw[hb]at e; simp at e
       | true =>
        rw[hb]at e; simp only[cond_true]at e;split at e
        ·rename_i cx cy hx hy
         split at e
         ·rename_i ok' s1 hs
          simp at e; obtain⟨_,rfl⟩:=e;refine⟨s1,_,rfl,zgy hs,fun h=> ?_⟩;unfold zbt at h;rw[hq,Bool.false_or]at h;unfold zdE at h;simp only[hop,hcal,hargs,hx,hy]at h;split at h
          ·simp at h
          ·rename_i hne hcx
           simp only[V.c.injEq]at hne;subst hne;exact zgN (fun k hk=>hcx k (by rw[hk])) hs
          ·simp at h
         ·simp at e
        ·simp at e
      ·simp at e
     ·simp at e
   ·unfold zbW at e
    split at e
    ·split at e
     ·exact put e
     ·simp at e
    ·simp at e
   ·unfold zbW at e
    split at e
    ·split at e
     ·exact put e
     ·simp at e
    ·simp at e
   ·have hq:za2 E o=false:=by simp[za2,hop,hcal]
    unfold zfF at e;split at e
    ·split at e
     ·split at e
      ·split at e
       ·split at e
        ·rename_i s1 hs
         simp only[Option.some.injEq,Prod.mk.injEq]at e; obtain⟨_,rfl⟩:=e;exact⟨s1,_,rfl,zeD hs,fun h=>by simp[zbt,za2,zdE,hop,hcal]at h⟩
        ·simp at e
       ·simp at e
      ·simp at e
     ·simp at e
    ·simp at e
   ·have hq:za2 E o=false:=by simp[za2,hop,hcal]
    unfold zek at e;split at e
    ·split at e
     ·split at e
      ·split at e
       ·split at e
        ·rename_i s1 hs
         simp only[Option.some.injEq,Prod.mk.injEq]at e; obtain⟨_,rfl⟩:=e;exact⟨s1,_,rfl,zeD hs,fun h=>by simp[zbt,za2,zdE,hop,hcal]at h⟩
        ·simp at e
       ·simp at e
      ·simp at e
     ·simp at e
    ·simp at e
   ·simp at e
  ·simp at e
 ·simp at e
theorem zil {con:Con} {vs:List V} {q:Bool} (hq:q=true→zb9 con.ins=true∧Nat.ble (zW con.outs) 64=true) (e:zb0 site s o.dst con vs some=some s') :
  ∃s1 v,s'=s1.putO o.dst v∧Slots s s1∧(q=true→Same site s s1):=by
 unfold zb0 at e;split at e
 ·rename_i k sm ha
  cases hnn:(zaf (zD con.ins vs)&&zaf (zB con.ins vs)&&zfy (zH con.ins vs) (zB con.ins vs))with
  | false=>rw[hnn]at e; simp at e
  | true =>
  rw[hnn]at e; simp only[cond_true]at e;split at e
  ·split at e
   ·rename_i r _
    split at e
    ·rename_i l s1 hr
     split at e
     ·rename_i s2 hb
      simp at e; subst e;have h1:=zd4 hr;have h2:=zaQ hb;refine⟨s2,_,rfl,⟨h2.1.trans h1.nt,h2.2.trans h1.tm⟩,fun hqt=> ?_⟩;obtain⟨hq1,hq2⟩:=hq hqt;obtain⟨h3,h4,h5,h6⟩:=zcB hq1 ha;have h7:=h6 _ _ _ _ hb;subst h7 h3;rw[h4,h5]at hr;have h8:zc5 s s.sh [] [] (zaH s.sh con.ins vs r.2)=s:=rfl;rw[h8]at hr;exact zeG (Nat.le_refl _) (by have:=Nat.le_of_ble_eq_true hq2; omega) hr
     ·simp at e
    ·simp at e
   ·simp at e
  ·simp at e
 ·simp at e
theorem zjE (e:doT E site s o some=some s'):zgI E site o s s':=by
 have hst:(match zaI E site s o with
   | some (ok,s')=>bif ok then some s' else none
   | none=>none)=some s'→zgI E site o s s':=by
  intro e;split at e
  ·rename_i ok s1 hs
   cases ok with
   | true=>simp at e; subst e; exact ziS hs
   | false=>simp at e
  ·simp at e
 unfold doT at e;split at e
 ·rename_i c hop
  cases hc:zbF o with
  | false=>rw[hc]at e; exact hst e
  | true =>
   rw[hc]at e; simp only[cond_true]at e;unfold zc1 at e;split at e
   ·rename_i f ex hcal
    split at e
    ·rename_i con hcon
     refine zil (q:=zbt E s o) (fun hq=> ?_) e;unfold zae at hcal;split at hcal
     ·rename_i hcl
      simp at hcal; obtain⟨rfl,_⟩:=hcal;have ha:zdE s o=false:=by simp[zdE,hop,hcl]
      unfold zbt at hq;rw[ha,Bool.or_false]at hq;simp only[za2,hop,hcl,hcon,Bool.and_eq_true]at hq;exact hq
     ·rename_i hcl
      simp[zbt,za2,zdE,hop,hcl]at hq
     ·simp at hcal
    ·simp at e
   ·simp at e
 ·exact hst e
theorem zjD {j:Nat} (e:doT E site s o some=some s') (ha:zjz s o=some j) :
  ∃(s1:St) (v:V),s'=s1.putO o.dst v∧ ∀k,k≠j→(k<site∨site+64≤k)→s1.sh.boxes k=s.sh.boxes k∧s1.sh.regs k=s.sh.regs k∧s1.used k=s.used k:=by
 unfold zjz at ha;split at ha
 ·rename_i c hop
  split at ha
  ·rename_i x y hcal hargs
   have hc:zbF o=false:=by simp[zbF,hop,hcal]
   unfold doT at e;simp only[hop,hc,cond_false]at e;unfold zaI at e;simp only[hop,hcal,hargs]at e;generalize c.argTypes.toList=ts at e;unfold zce at e;split at e
   ·rename_i ok s1 hb
    rcases ts with _ | ⟨t,_ | ⟨u,_ | ⟨v,ts⟩⟩⟩
    ·simp at hb
    ·simp at hb
    ·simp only at hb
     cases htu:Nat.beq t u with
     | false=>rw[htu]at hb; simp at hb
     | true =>
      rw[htu]at hb; simp only[cond_true]at hb;unfold zf6 at hb;split at hb
      ·split at hb
       ·rename_i ty _
        cases hq:(Nat.beq o.type t&&Nat.blt 0 ty.size&&Nat.blt 0 ty.bytes)with
        | false=>rw[hq]at hb; simp at hb
        | true =>
         rw[hq]at hb; simp only[cond_true]at hb;split at hb
         ·rename_i cx cy hx hy
          split at hb
          ·rename_i ok' s2 hs
           simp only[Option.some.injEq,Prod.mk.injEq]at hb;obtain⟨rfl,rfl⟩:=hb;cases ok' with
           | false=>simp at e
           | true =>
            simp at e;subst e;refine⟨s2,_,rfl,?_⟩;simp only[hx,hy]at ha;split at ha
            ·simp at ha
            ·rename_i j' hne hcx
             simp at ha; subst ha;simp only[V.c.injEq]at hne;subst hne;intro k hkj hout;simp only[zaL]at hs;split at hs
             ·rename_i en _
              cases hsz:(Nat.beq en.pk.t.size ty.size&&Nat.beq en.pk.t.bytes ty.bytes)with
              | false=>rw[hsz]at hs; simp at hs
              | true =>
               rw[hsz]at hs; simp only[cond_true]at hs;unfold zbs at hs;split at hs
               ·rename_i l2 sh hsrc
                have:=zie hsrc (fun q hq=>hcx q (by rw[hq]));subst this;split at hs
                ·rename_i s3 hn
                 simp only[Option.some.injEq,Prod.mk.injEq]at hs;obtain⟨_,rfl⟩:=hs;have hsame:=(zbI (lo:=site) (Nat.le_refl _) (by omega) hn).key k hout;refine⟨hsame.1,?_,hsame.2.2⟩;rw[hsame.2.1];exact zt _ _ hkj
                ·simp at hs
               ·simp at hs
             ·simp at hs
            ·simp at ha
          ·simp at hb
         ·simp at hb
       ·simp at hb
      ·simp at hb
    ·simp at hb
   ·simp at e
  ·simp at ha
 ·simp at ha
end
structure Fp where
 slots:List Nat
 dst:Option Nat
 keys:List Nat
 wk:List Nat
def zcY:List Operand→List Nat
 | []=> []
 | .tmp d::xs=>d::zcY xs
 | _::xs=>zcY xs
theorem zfP {d:Nat}: ∀{xs:List Operand},.tmp d∈xs→d∈zcY xs
 | x::xs,h=>by
  rcases List.mem_cons.1 h with h | h
  ·subst h; simp[zcY]
  ·have:=zfP h
   cases x<;>simp[zcY,this]
def zdv (s:St):List Operand→List Nat
 | []=> []
 | x::xs=>(ze s x).refs++zdv s xs
theorem zdS {s:St} {x:Operand} {k:Nat} (hk:k∈(ze s x).refs): ∀{xs:List Operand},x∈xs→k∈zdv s xs
 | y::xs,h=>by
  rcases List.mem_cons.1 h with h | h
  ·subst h; simp[zdv,hk]
  ·simp[zdv,zdS hk h]
def zdu (s:St):List Nat→List Nat
 | []=> []
 | k::ks=>(match s.sh.boxes k with
  | some cs=>cs.flatMap C.refs
  | none=> [])++zdu s ks
theorem zfa {s:St} {k j:Nat} {cs:List C} (hb:s.sh.boxes k=some cs) {c:C} (hc:c∈cs) (hj:j∈c.refs): ∀{ks:List Nat},k∈ks→j∈zdu s ks
 | i::ks,h=>by
  rcases List.mem_cons.1 h with h | h
  ·subst h
   simp only[zdu,hb,List.mem_append];exact .inl (List.mem_flatMap.2 ⟨c,hc,hj⟩)
  ·simp only[zdu,List.mem_append]
   exact .inr (zfa hb hc hj h)
def zbv (s:St) (o:Oper):List Nat:=bif zcS o then[]else zdv s o.op.operands.toList++(bif zbF o then zdu s (zdv s o.op.operands.toList)else[])
def ziW (E:Env) (s:St) (o:Oper):List Nat:=bif zbt E s o then[]else match zjz s o with
 | some j=> [j]
 | none=>zbv s o
def zaU (E:Env) (s:St) (o:Oper) (gs:List Nat):Fp:=⟨gs++zcY o.op.operands.toList,o.dst,zbv s o,ziW E s o⟩
def zcN (o:Oper) (d:Nat):Fp:=⟨[d],o.dst,[],[]⟩
def inR (base j k:Nat):Bool:=Nat.ble (base+64*j) k&&Nat.blt k (base+64*j+64)
def zhm (d:Option Nat) (fp:Fp):Bool :=
 match d with
 | none=>true
 | some d=> !(zr d fp.slots)&&(match fp.dst with
  | some e=> !(Nat.beq d e)
  | none=>true)
def zgW:List Nat→List Nat→Bool
 | [],_=>true
 | k::ks,l=> !(zr k l)&&zgW ks l
def zbC (base i:Nat) (f:Fp) (j:Nat) (g:Fp):Bool :=zhm f.dst g&&zhm g.dst f&&(f.keys.all fun k=> !(inR base j k))&&(g.keys.all fun k=> !(inR base i k))&&(zgW f.wk g.keys&&zgW g.wk f.keys)
def zbd (o:Oper):List Nat:=(o.after.toList.filter (Region.binds .any)).map (·.on)
def bef (all:List Oper):Nat→Nat→List Nat
 | 0,_=> []
 | f+1,j=>match all[j]? with
  | some o=>(zbd o).flatMap fun i=>i::bef all f i
  | none=> []
def zjB (m i:Nat):Bool:=Nat.beq (Nat.land (Nat.shiftRight m i) 1) 1
def zig (acc:List Nat):List Nat→Nat→Nat
 | [],m=>m
 | i::is,m=>zig acc is (Nat.lor (Nat.lor m (Nat.shiftLeft 1 i)) (acc.getD i 0))
def zf5:List Oper→List Nat→List Nat
 | [],acc=>acc
 | o::os,acc=>zf5 os (acc++ [zig acc (zbd o) 0])
def zeT (base:Nat) (j:Nat) (g:Fp) (m:Nat):Nat→List Fp→Bool
 | _,[]=>true
 | i,f::fs=>(zjB m i||zbC base i f j g)&&zeT base j g m (i+1) fs
def zdA (base:Nat) (E:Env) (pre:List Fp):Nat→List Nat→List Fp→Bool
 | _,_,[]=>true
 | j,m::ms,g::gs=>zeT base j g m 0 pre&&zdA base E (pre++ [g]) (j+1) ms gs
 | _,[],_::_=>false
def zeR:Nat→List Oper→Bool
 | _,[]=>true
 | j,o::os=>((zbd o).all fun i=>Nat.blt i j)&&zeR (j+1) os
def zdz (base:Nat) (E:Env) (all:List Oper) (fps:List Fp):Bool :=zeR 0 all&&(all.all (zbn E))&&zdA base E [] 0 (zf5 all []) fps
def zcC {α:Type} (E:Env) (base:Nat) (all:List Oper):Nat→List Oper→List Fp→St→(St→Option α)→Option α
 | _,[],fps,s,K=>bif zdz base E all fps.reverse then K s else none
 | j,o::os,fps,s,K=>match o.guard with
  | none=>doT E (base+64*j) s o (fun s'=>zcC E base all (j+1) os (zaU E s o []::fps) s' K)
  | some (i,want)=>match zaN all i with
   | some d=>match ze s (.tmp d)with
    | .c (.bool b)=>bif zcG b want then
      (match some (s.put d (.c (.bool want)))with
      | some s=>doT E (base+64*j) s o (fun s'=>zcC E base all (j+1) os (zaU E s o [d]::fps) s' K)
      | none=>none)
     else zcC E base all (j+1) os (zcN o d::fps) ((s.put d (.c (.bool (!want)))).putO o.dst (.tup [])) K
    | .tup []=>zcC E base all (j+1) os (zcN o d::fps) (s.putO o.dst (.tup [])) K
    | _=>none
   | none=>none
inductive Link (E:Env) (base:Nat) (all:List Oper) (j:Nat) (o:Oper) (s s':St) (fp:Fp):Prop where
 | free (hg:o.guard=none) (hd:doT E (base+64*j) s o some=some s') (hf:fp=zaU E s o [])
 | want (i:Nat) (want:Bool) (d:Nat) (hg:o.guard=some (i,want)) (hs:zaN all i=some d) (hb:ze s (.tmp d)= .c (.bool want)) (hd:doT E (base+64*j) s o some=some s') (hf:fp=zaU E s o [d])
 | skip (i:Nat) (want:Bool) (d:Nat) (hg:o.guard=some (i,want)) (hs:zaN all i=some d) (hb:ze s (.tmp d)= .c (.bool (!want))∨ze s (.tmp d)= .tup []) (hd:s'=s.putO o.dst (.tup [])) (hf:fp=zcN o d)
inductive Chain (E:Env) (base:Nat) (all:List Oper):Nat→List Oper→St→List (St×Fp)→St→Prop where
 | nil {j:Nat} {s:St}:Chain E base all j [] s [] s
 | cons {j:Nat} {o:Oper} {os:List Oper} {s s' z:St} {fp:Fp} {l:List (St×Fp)} (h:Link E base all j o s s' fp) (r:Chain E base all (j+1) os s' l z):Chain E base all j (o::os) s ((s,fp)::l) z
section
variable {E:Env} {base:Nat} {all:List Oper}
theorem zbE {α:Type} {K:St→Option α} {out:α}: ∀{os:List Oper} {j:Nat} {fps:List Fp} {s:St},zcC E base all j os fps s K=some out →
  ∃l z,Chain E base all j os s l z∧zdz base E all (fps.reverse++l.map (·.2))=true∧K z=some out
 | [],j,fps,s,e=>by
  simp only[zcC]at e;cases hb:zdz base E all fps.reverse with
  | true=>rw[hb]at e; exact⟨[],s,.nil,by simpa using hb,e⟩
  | false=>rw[hb]at e; simp at e
 | o::os,j,fps,s,e=>by
  simp only[zcC]at e;split at e
  ·rename_i hg
   rw[zgX]at e;cases hd:doT E (base+64*j) s o some with
   | none=>rw[hd]at e; simp at e
   | some s' =>
    rw[hd]at e;simp only[Option.bind_some]at e;obtain⟨l,z,h1,h2,h3⟩:=zbE e;exact⟨(s,zaU E s o [])::l,z,.cons (.free hg hd rfl) h1,by simpa using h2,h3⟩
  ·rename_i i want hg
   split at e
   ·rename_i d hsl
    split at e
    ·rename_i b hb
     obtain⟨hlt,htm⟩:=zc3 hb (by simp);cases hwb:zcG b want with
     | true =>
      have hbw:=zgx.1 hwb;subst hbw;rw[hwb]at e; simp only[cond_true]at e;rw[zd3 htm]at e;rw[zgX]at e;cases hd:doT E (base+64*j) s o some with
      | none=>rw[hd]at e; simp at e
      | some s' =>
       rw[hd]at e;simp only[Option.bind_some]at e;obtain⟨l,z,h1,h2,h3⟩:=zbE e;exact⟨(s,zaU E s o [d])::l,z,.cons (.want i b d hg hsl hb hd rfl) h1,by simpa using h2,h3⟩
     | false =>
      rw[hwb]at e; simp only[cond_false]at e;have hbw:b= !want:=by cases b<;>cases want<;>simp_all [zcG]
      rw[zd3 (by rw[htm,hbw])]at e;obtain⟨l,z,h1,h2,h3⟩:=zbE e;exact⟨(s,zcN o d)::l,z,.cons (.skip i want d hg hsl (.inl (by rw[hb,hbw])) rfl rfl) h1,by simpa using h2,h3⟩
    ·rename_i hb
     obtain⟨l,z,h1,h2,h3⟩:=zbE e;exact⟨(s,zcN o d)::l,z,.cons (.skip i want d hg hsl (.inr hb) rfl rfl) h1,by simpa using h2,h3⟩
    ·simp at e
   ·simp at e
def zbg (l:List (St×Fp)) (z:St) (j:Nat):St:=match l[j]? with | some p=>p.1 | none=>z
def zbb (l:List (St×Fp)) (j:Nat):Fp:=match l[j]? with | some p=>p.2 | none=>⟨[],none,[],[]⟩
theorem Chain.links: ∀{os:List Oper} {j:Nat} {s z:St} {l:List (St×Fp)},Chain E base all j os s l z→l.length=os.length∧zbg l z 0=s∧zbg l z os.length=z ∧
  ∀i o,os[i]? =some o→Link E base all (j+i) o (zbg l z i) (zbg l z (i+1)) (zbb l i)
 | [],j,s,z,l,h=>by
  cases h;exact⟨rfl,rfl,rfl,fun i o h=>by simp at h⟩
 | o::os,j,s,z,l,h=>by
  cases h with
  | cons h r =>
   rename_i s' fp l;obtain⟨h1,h2,h3,h4⟩:=Chain.links r;refine⟨by simp[h1],rfl,?_,fun i o' ho=> ?_⟩
   ·simpa [zbg]using h3
   ·cases i with
    | zero =>
     simp at ho; subst ho;show Link E base all (j+0) o s (zbg l z 0) fp;rw[h2];exact h
    | succ i =>
     have:=h4 i o' (by simpa using ho);rw[show j+(i+1)=j+1+i by omega];exact this
inductive Loc where
 | slot (d:Nat)
 | key (k:Nat)
def Alike (s s':St):Loc→Prop
 | .slot d=>s.tmps d=s'.tmps d
 | .key k=>s.sh.boxes k=s'.sh.boxes k∧s.sh.regs k=s'.sh.regs k∧s.used k=s'.used k
theorem Alike.refl (s:St) (x:Loc):Alike s s x:=by cases x<;>simp[Alike]
theorem Alike.symm {s s':St} {x:Loc} (h:Alike s s' x):Alike s' s x:=by
 cases x with
 | slot d=>exact Eq.symm h
 | key k=>exact⟨h.1.symm,h.2.1.symm,h.2.2.symm⟩
theorem Alike.trans {a b c:St} {x:Loc} (h:Alike a b x) (h':Alike b c x):Alike a c x:=by
 cases x with
 | slot d=>exact Eq.trans h h'
 | key k=>exact⟨h.1.trans h'.1,h.2.1.trans h'.2.1,h.2.2.trans h'.2.2⟩
theorem zgK {s s':St} (hn:s.nt=s'.nt) (h: ∀x,Alike s s' x):s=s':=by
 obtain⟨nt,tm,⟨bx,rg⟩,us⟩:=s;obtain⟨nt',tm',⟨bx',rg'⟩,us'⟩:=s';simp only at hn;subst hn;have h1:tm=tm':=funext fun d=>h (.slot d)
 have h2:bx=bx':=funext fun k=>(h (.key k)).1
 have h3:rg=rg':=funext fun k=>(h (.key k)).2.1
 have h4:us=us':=funext fun k=>(h (.key k)).2.2
 subst h1 h2 h3 h4; rfl
def zY (base j:Nat) (f:Fp):Loc→Bool
 | .slot d=>zr d f.slots||(match f.dst with | some e=>Nat.beq d e | none=>false)
 | .key k=>zr k f.keys||inR base j k
def zay (base j:Nat) (f:Fp):Loc→Bool
 | .slot d=>(match f.dst with | some e=>Nat.beq d e | none=>false)
 | .key k=>inR base j k||(zr k f.wk&&zr k f.keys)
theorem zh4 {base j:Nat} {f:Fp} {x:Loc} (h:zay base j f x=true):zY base j f x=true:=by
 cases x with
 | slot d=>simp only[zay]at h; simp only[zY,h,Bool.or_true]
 | key k =>
  simp only[zay,Bool.or_eq_true,Bool.and_eq_true]at h;simp only[zY,Bool.or_eq_true];exact h.elim .inr (fun h=> .inl h.2)
theorem zj5 {base i j k:Nat} (h1:inR base i k=true) (h2:inR base j k=true):i=j:=by
 simp only[inR,Bool.and_eq_true]at h1 h2;have a1:=Nat.le_of_ble_eq_true h1.1;have a2:=Nat.le_of_ble_eq_true h1.2;have b1:=Nat.le_of_ble_eq_true h2.1;have b2:=Nat.le_of_ble_eq_true h2.2;omega
theorem zgj: ∀{l m:List Nat},zgW l m=true→ ∀k,k∈l→k∉m
 | [],_,_,k,h=>by simp at h
 | x::l,m,h,k,hk=>by
  simp only[zgW,Bool.and_eq_true,Bool.not_eq_true']at h;rcases List.mem_cons.1 hk with rfl | hk
  ·intro hm; rw[zq.2 hm]at h; simp at h
  ·exact zgj h.2 k hk
theorem ziY {base i j:Nat} {f g:Fp} (h:zbC base i f j g=true):zbC base j g i f=true:=by
 simp only[zbC,Bool.and_eq_true]at h ⊢;obtain⟨⟨⟨⟨h1,h2⟩,h3⟩,h4⟩,h5,h6⟩:=h;exact⟨⟨⟨⟨h2,h1⟩,h4⟩,h3⟩,h6,h5⟩
theorem zfz {base i j:Nat} {f g:Fp} (hij:i≠j) (h:zbC base i f j g=true) {x:Loc} (hw:zay base i f x=true):zY base j g x=false:=by
 simp only[zbC,Bool.and_eq_true]at h;obtain⟨⟨⟨⟨h1,h2⟩,h3⟩,h4⟩,h5⟩:=h;cases x with
 | slot d =>
  simp only[zay]at hw;simp only[zY];cases hf:f.dst with
  | none=>rw[hf]at hw; simp at hw
  | some e =>
   rw[hf]at hw h1;have:=Nat.eq_of_beq_eq_true hw;subst this;simp only[zhm,Bool.and_eq_true,Bool.not_eq_true']at h1;rw[h1.1,Bool.false_or];cases hg:g.dst with
   | none=>rfl
   | some e'=>rw[hg]at h1; simpa using h1.2
 | key k =>
  simp only[zay,Bool.or_eq_true,Bool.and_eq_true]at hw;simp only[zY];rcases hw with hw | ⟨hq,hm⟩
  ·have n1:inR base j k=false:=by
    cases hr:inR base j k with
    | false=>rfl
    | true=>exact absurd (zj5 hw hr) hij
   have n2:zr k g.keys=false:=by
    cases hm:zr k g.keys with
    | false=>rfl
    | true =>
     have:=List.all_eq_true.1 h4 k (zq.1 hm);rw[hw]at this; simp at this
   rw[n1,n2]; rfl
  ·have hk:=zq.1 hm
   have n1:inR base j k=false:=by
    have:=List.all_eq_true.1 h3 k hk;simpa using this
   have n2:zr k g.keys=false:=by
    cases hm2:zr k g.keys with
    | false=>rfl
    | true=>exact absurd (zq.1 hm2) (zgj h5.1 k (zq.1 hq))
   rw[n1,n2]; rfl
end
section
variable {E:Env} {base:Nat} {all:List Oper}
def seT (base j:Nat) (f:Fp) (d:Nat):Bool:=zY base j f (.slot d)
def seK (base j:Nat) (f:Fp) (k:Nat):Bool:=zY base j f (.key k)
theorem zic {s:St} {o:Oper} {j:Nat} {gs:List Nat}:Sees (seT base j (zaU E s o gs)) (seK base j (zaU E s o gs)) s o (base+64*j) where
 t:=by
  intro x hx;cases x with
  | tmp d =>
   show(zr d (gs++zcY o.op.operands.toList)||_)=true;rw[zq.2 (List.mem_append.2 (.inr (zfP hx)))]; rfl
  | _=>rfl
 k:=by
  intro x hx k hk;cases hno:zcS o with
  | true=>rw[hno]at hx; cases hx
  | false =>
  rw[hno]at hx;show(zr k (zbv s o)||_)=true
  have:k∈zbv s o:=by
   unfold zbv;rw[hno];exact List.mem_append.2 (.inl (zdS hk hx))
  rw[zq.2 this]; rfl
 b:=by
  intro hc x hx k hk cs hcs c hcc j hj;show(zr j (zbv s o)||_)=true
  have:j∈zbv s o:=by
   have hno:zcS o=false:=by
    unfold zbF at hc;split at hc
    ·rename_i hop; simp[zcS,hop]
    ·simp at hc
   unfold zbv;rw[hc,hno];exact List.mem_append.2 (.inr (zfa hcs hcc hj (zdS hk hx)))
  rw[zq.2 this]; rfl
 d:=by
  intro i hi;show(_||(match o.dst with | some e=>Nat.beq i e | none=>false))=true;rw[hi]; simp
 si:=by
  show(_||inR base j (base+64*j))=true
  have:inR base j (base+64*j)=true:=by
   unfold inR;simp only[Bool.and_eq_true];exact⟨Nat.ble_eq_true_of_le (Nat.le_refl _),Nat.ble_eq_true_of_le (by omega)⟩
  rw[this,Bool.or_true]
theorem zhq {f:Fp} {j:Nat}: ∀k,base+64*j≤k→k<base+64*j+64→seK base j f k=true:=by
 intro k h1 h2;show(_||inR base j k)=true
 have:inR base j k=true:=by
  unfold inR;simp only[Bool.and_eq_true];exact⟨Nat.ble_eq_true_of_le h1,Nat.ble_eq_true_of_le (by omega)⟩
 rw[this,Bool.or_true]
theorem zjO {T K:Nat→Bool} (s:St):zp T K s s=s:=by
 have h: ∀{α:Type} (P:Nat→Bool) (f:Nat→α),zal P f f=f:=by
  intro α P f;funext i;unfold zal;cases P i<;>rfl
 simp only[zp,zm,h]
theorem zeE {s:St} {d:Option Nat} {v:V} {i:Nat} (h:(match d with | some e=>Nat.beq i e | none=>false)=false):(s.putO d v).tmps i=s.tmps i:=by
 cases d with
 | none=>rfl
 | some e =>
  have:i≠e:=fun he=>by subst he; simp at h
  exact zt _ _ this
theorem zge {s:St} {d:Option Nat} {v:V}:(s.putO d v).nt=s.nt:=by cases d<;>rfl
theorem zcH {s:St} {d:Option Nat} {v:V}:(s.putO d v).sh=s.sh:=by cases d<;>rfl
theorem zbX {s:St} {d:Option Nat} {v:V}:(s.putO d v).used=s.used:=by cases d<;>rfl
theorem zfm {s s':St} {o:Oper} {j:Nat} {gs:List Nat} (hf:zbn E o=true) (h:doT E (base+64*j) s o some=some s') :
  s'.nt=s.nt∧ ∀x,zay base j (zaU E s o gs) x=false→Alike s' s x:=by
 obtain⟨s1,v,he,hsl,hq⟩:=zjE h;refine⟨by rw[he,zge]; exact hsl.nt,fun x hx=> ?_⟩;cases x with
 | slot d =>
  show s'.tmps d=s.tmps d;rw[he,zeE (d:=o.dst) hx,hsl.tm]
 | key k =>
  simp only[zay,Bool.or_eq_false_iff]at hx;obtain⟨h1,h2⟩:=hx;cases hm:zr k (zaU E s o gs).keys with
  | true =>
   have hk:k<base+64*j∨base+64*j+64≤k:=by
    unfold inR at h1;rw[Bool.and_eq_false_iff]at h1;rcases h1 with h1 | h1
    ·left
     rcases Nat.lt_or_ge k (base+64*j)with h | h
     ·exact h
     ·rw[Nat.ble_eq_true_of_le h]at h1; simp at h1
    ·right
     rcases Nat.lt_or_ge k (base+64*j+64)with h | h
     ·have:Nat.blt k (base+64*j+64)=true:=Nat.ble_eq_true_of_le h
      rw[this]at h1; simp at h1
     ·exact h
   have h2:zr k (ziW E s o)=false:=by
    have:(zr k (ziW E s o)&&zr k (zaU E s o gs).keys)=false:=h2;rwa[hm,Bool.and_true]at this
   show s'.sh.boxes k=_∧s'.sh.regs k=_∧s'.used k=_;unfold ziW at h2;cases hqq:zbt E s o with
   | true =>
    have:=(hq hqq).key k hk;rw[he,zcH,zbX];exact this
   | false =>
    rw[hqq]at h2;simp only[cond_false]at h2;split at h2
    ·rename_i i hi
     obtain⟨s2,v2,he2,hk2⟩:=zjD h hi
     have hne:k≠i:=by
      rintro rfl
      have:zr k [k]=true:=zq.2 List.mem_cons_self;rw[this]at h2; cases h2
     have:=hk2 k hne hk;rw[he2,zcH,zbX];exact this
    ·have:zr k (zbv s o)=true:=hm
     rw[this]at h2; cases h2
  | false =>
   have hK:seK base j (zaU E s o gs) k=false:=by
    show(zr k _||inR base j k)=false;rw[hm,h1]; rfl
   have hmix:=zh8 (E:=E) (u:=s) (zic (E:=E) (base:=base) (s:=s) (o:=o) (j:=j) (gs:=gs)) zhq hf;rw[zjO,h]at hmix;simp only[Option.map_some,Option.some.injEq]at hmix;show s'.sh.boxes k=_∧s'.sh.regs k=_∧s'.used k=_;rw[hmix];exact⟨zU hK,zU hK,zU hK⟩
theorem zdR {s s':St} {o:Oper} {j:Nat} {f:Fp} (hf:zbn E o=true) (h:Link E base all j o s s' f):s'.nt=s.nt∧ ∀x,zay base j f x=false→Alike s' s x:=by
 cases h with
 | free hg hd hfp=>subst hfp; exact zfm hf hd
 | want i want d hg hs hb hd hfp=>subst hfp; exact zfm hf hd
 | skip i want d hg hs hb hd hfp =>
  subst hfp hd;refine⟨zge,fun x hx=> ?_⟩;cases x with
  | slot d=>exact zeE hx
  | key k =>
   show(s.putO o.dst (V.tup [])).sh.boxes k=_∧(s.putO o.dst (V.tup [])).sh.regs k=_∧(s.putO o.dst (V.tup [])).used k=_;rw[zcH,zbX];exact⟨rfl,rfl,rfl⟩
theorem zgY {s s' u:St} {o:Oper} {j:Nat} {gs:List Nat} (hf:zbn E o=true) (h:doT E (base+64*j) s o some=some s') (hn:u.nt=s.nt)
  (hu: ∀x,zY base j (zaU E s o gs) x=true→Alike u s x) :
  ∃u',doT E (base+64*j) u o some=some u'∧u'.nt=u.nt∧(∀x,zY base j (zaU E s o gs) x=true→Alike u' s' x)∧ ∀x,zY base j (zaU E s o gs) x=false→Alike u' u x:=by
 have hmix:=zh8 (E:=E) (u:=u) (zic (E:=E) (base:=base) (s:=s) (o:=o) (j:=j) (gs:=gs)) zhq hf
 have hself:zp (seT base j (zaU E s o gs)) (seK base j (zaU E s o gs)) s u=u:=by
  refine zgK hn.symm (fun x=> ?_);cases x with
  | slot d =>
   show zal _ s.tmps u.tmps d=u.tmps d;cases hT:seT base j (zaU E s o gs) d with
   | true=>rw[z7 hT]; exact Eq.symm (hu (.slot d) hT)
   | false=>rw[zU hT]
  | key k =>
   show zal _ s.sh.boxes u.sh.boxes k=_∧zal _ s.sh.regs u.sh.regs k=_∧zal _ s.used u.used k=_;cases hK:seK base j (zaU E s o gs) k with
   | true =>
    have:=hu (.key k) hK;rw[z7 hK,z7 hK,z7 hK];exact⟨this.1.symm,this.2.1.symm,this.2.2.symm⟩
   | false=>rw[zU hK,zU hK,zU hK]; exact⟨rfl,rfl,rfl⟩
 rw[hself,h]at hmix;simp only[Option.map_some]at hmix;refine⟨_,hmix,?_,fun x hx=> ?_,fun x hx=> ?_⟩
 ·show s'.nt=u.nt
  rw[(zfm (base:=base) (gs:=gs) hf h).1,hn]
 ·cases x with
  | slot d=>exact z7 hx
  | key k=>exact⟨z7 hx,z7 hx,z7 hx⟩
 ·cases x with
  | slot d=>exact zU hx
  | key k=>exact⟨zU hx,zU hx,zU hx⟩
theorem ze3 {s u:St} {d:Nat} (hn:u.nt=s.nt) (h:Alike u s (.slot d)):ze u (.tmp d)=ze s (.tmp d):=by
 show(bif Nat.blt d u.nt then u.tmps d else .junk)=(bif Nat.blt d s.nt then s.tmps d else .junk);have h1:u.tmps d=s.tmps d:=h;rw[hn,h1]
theorem ziH {s s' u:St} {o:Oper} {j:Nat} {f:Fp} (hf:zbn E o=true) (h:Link E base all j o s s' f) (hn:u.nt=s.nt) (hu: ∀x,zY base j f x=true→Alike u s x) :
  ∃u' f',Link E base all j o u u' f'∧u'.nt=u.nt∧(∀x,zY base j f x=true→Alike u' s' x)∧ ∀x,zY base j f x=false→Alike u' u x:=by
 cases h with
 | free hg hd hfp =>
  subst hfp;obtain⟨u',h1,h2,h3,h4⟩:=zgY hf hd hn hu;exact⟨u',_,.free hg h1 rfl,h2,h3,h4⟩
 | want i want d hg hs hb hd hfp =>
  subst hfp;obtain⟨u',h1,h2,h3,h4⟩:=zgY hf hd hn hu;have hdt:zY base j (zaU E s o [d]) (.slot d)=true:=by simp[zY,zaU,zr]
  exact⟨u',_,.want i want d hg hs (by rw[ze3 hn (hu _ hdt)]; exact hb) h1 rfl,h2,h3,h4⟩
 | skip i want d hg hs hb hd hfp =>
  subst hfp hd;have hdt:zY base j (zcN o d) (.slot d)=true:=by simp[zY,zcN,zr]
  refine⟨u.putO o.dst (.tup []),_,.skip i want d hg hs (by rw[ze3 hn (hu _ hdt)]; exact hb) rfl rfl,zge,fun x hx=> ?_,fun x hx=> ?_⟩
  ·cases x with
   | slot e =>
    show(u.putO o.dst (.tup [])).tmps e=(s.putO o.dst (.tup [])).tmps e;have h1:u.tmps e=s.tmps e:=hu (.slot e) hx;cases ho:o.dst with
    | none=>exact h1
    | some b =>
     show zg u.tmps b (V.tup []) e=zg s.tmps b (V.tup []) e;rw[zJ,zJ,h1]
   | key k =>
    have:=hu (.key k) hx;show(u.putO o.dst (.tup [])).sh.boxes k=_∧(u.putO o.dst (.tup [])).sh.regs k=_∧(u.putO o.dst (.tup [])).used k=_;rw[zcH,zbX,zcH,zbX];exact this
  ·cases x with
   | slot e =>
    refine zeE ?_;simp only[zY,Bool.or_eq_false_iff]at hx;exact hx.2
   | key k =>
    show(u.putO o.dst (.tup [])).sh.boxes k=_∧(u.putO o.dst (.tup [])).sh.regs k=_∧(u.putO o.dst (.tup [])).used k=_;rw[zcH,zbX];exact⟨rfl,rfl,rfl⟩
end
section
variable {P:Program} {E:Env} {n0:Nat} {M:Nat→Prop} {h0:Home} {g:Gh} {X:List Nat} {a:Act} {w:World} {base:Nat}
theorem zf1 {s:St} {ops:Array Oper} {i d:Nat} {b:Bool} (r:Rel n0 M h0 s g X a w) (hs:zaN ops.toList i=some d) (hb:ze s (.tmp d)= .c (.bool b)) :
  yielded ops a.tmps i=some b:=by
 obtain⟨hlt,htm⟩:=zc3 hb (by simp);have hev:=(zf r (.tmp d)).1;rw[hb]at hev;have hval:a.eval (.tmp d)= .bool b:=hev
 have hget:a.tmps[d]? =some (.bool b):=by
  have hd2:d<a.tmps.size:=by rw[r.sz]; exact Nat.le_of_ble_eq_true hlt
  have h2:a.tmps.getD d undef= .bool b:=hval;rw[Array.getD_eq_getD_getElem?,Array.getElem?_eq_getElem hd2]at h2;rw[Array.getElem?_eq_getElem hd2];simpa using h2
 unfold zaN at hs;split at hs
 ·rename_i o' ho'
  rw[Array.getElem?_toList]at ho';unfold yielded;simp[ho',hs,hget]
 ·simp at hs
theorem zj8 (hE:EnvOk P E) (hG:GOk P E) {ops:Array Oper} {s s':St} {o:Oper} {j:Nat} {f:Fp} {Q:Exit→Act→World→Prop} {K:Act→World→Prop} (r:Rel n0 M h0 s g X a w)
  (ho:ops[j]? =some o) (h:Link E base ops.toList j o s s' f) (hK: ∀g' X' a' w',Rel n0 M h0 s' g' X' a' w'→K a' w'):wpOp P ops Q j K a w:=by
 unfold wpOp;rw[ho];simp only
 have doit: ∀{site:Nat},doT E site s o some=some s'→o.wp P a w K Q:=fun hd =>
  zel r hE hG (out:=s') hd (fun s2 g' X' a' w' e r'=>by simp at e; subst e; exact hK g' X' a' w' r')
 cases h with
 | free hg hd hfp =>
  rw[if_pos (by simp[Region.wanted,hg])];exact .inl (doit hd)
 | want i want d hg hs hb hd hfp =>
  have hy:=zf1 r hs hb;rw[if_pos (by simp[Region.wanted,hg,hy])];exact .inl (doit hd)
 | skip i want d hg hs hb hd hfp =>
  have hnw:Region.wanted o (yielded ops a.tmps)=false:=by
   rcases hb with hb | hb
   ·have hy:=zf1 r hs hb
    simp only[Region.wanted,hg,hy]; cases want<;>simp
   ·have hy:=zef r hs hb
    simp[Region.wanted,hg,hy]
  rw[if_neg (by simp[hnw])];subst hd;exact hK _ _ _ _ (r.putO zeM (by simp[V.refs]))
end
def cnt (f:Nat→Bool):Nat→Nat
 | 0=>0
 | n+1=>cnt f n+(bif f n then 0 else 1)
theorem zgU {f:Nat→Bool}: ∀{n:Nat},cnt f n=0→ ∀i,i<n→f i=true
 | 0,_,i,hi=>by omega
 | n+1,h,i,hi=>by
  simp only[cnt]at h;cases hf:f n with
  | false=>rw[hf]at h; simp at h
  | true =>
   rw[hf]at h;rcases Nat.lt_or_ge i n with h2 | h2
   ·exact zgU (by simpa using h) i h2
   ·have:i=n:=by omega
    subst this; exact hf
theorem zgT {f g:Nat→Bool}: ∀{n:Nat},(∀i,i<n→f i=g i)→cnt f n=cnt g n
 | 0,_=>rfl
 | n+1,h=>by
  simp only[cnt];rw[zgT (fun i hi=>h i (by omega)),h n (by omega)]
theorem zh6 {f g:Nat→Bool} {j:Nat}: ∀{n:Nat},j<n→f j=false→g j=true→(∀i,i≠j→g i=f i)→cnt g n+1=cnt f n
 | 0,hj,_,_,_=>by omega
 | n+1,hj,h1,h2,h3=>by
  simp only[cnt];rcases Nat.lt_or_ge j n with h | h
  ·have:=zh6 (n:=n) h h1 h2 h3
   rw[h3 n (by omega)];omega
  ·have:j=n:=by omega
   subst this;rw[h1,h2];have:=zgT (f:=g) (g:=f) (n:=j) (fun i hi=>h3 i (by omega));rw[this]; simp
section
variable {E:Env} {base:Nat} {all:List Oper}
theorem zj3 (m i:Nat):zjB m i=Nat.testBit m i:=by
 unfold zjB;rw[Nat.testBit_eq_decide_div_mod_eq,show Nat.land (Nat.shiftRight m i) 1=(m >>> i) &&& 1 from rfl,Nat.and_one_is_mod,Nat.shiftRight_eq_div_pow];cases h:Nat.beq (m / 2^i % 2) 1 with
 | true=>rw[eq_comm,decide_eq_true_eq]; exact Nat.eq_of_beq_eq_true h
 | false=>rw[eq_comm,decide_eq_false_iff_not]; exact Nat.ne_of_beq_eq_false h
theorem zgO {j i:Nat}: ∀{f:Nat},i∈bef all f j→i∈bef all (f+1) j
 | 0,h=>by simp[bef]at h
 | f+1,h=>by
  rw[bef]at h ⊢;split at h
  ·simp only[List.mem_flatMap,List.mem_cons]at h ⊢
   obtain⟨k,hk,h⟩:=h;exact⟨k,hk,h.imp id (fun h=>zgO h)⟩
  ·simp at h
theorem ziZ {j i f g:Nat} (hfg:f≤g) (h:i∈bef all f j):i∈bef all g j:=by
 induction hfg with
 | refl=>exact h
 | step _ ih=>exact zgO ih
theorem zgM {acc:List Nat} {i:Nat}: ∀{is:List Nat} {m:Nat},Nat.testBit (zig acc is m) i=true→Nat.testBit m i=true∨ ∃k∈is,i=k∨Nat.testBit (acc.getD k 0) i=true
 | [],m,h=> .inl h
 | k::is,m,h=>by
  rcases zgM (is:=is) h with h | ⟨k',hk,h⟩
  ·have h:Nat.testBit ((m ||| (1 <<< k)) ||| acc.getD k 0) i=true:=h
   rw[Nat.testBit_or,Nat.testBit_or,Bool.or_eq_true,Bool.or_eq_true]at h;rcases h with(h | h) | h
   ·exact .inl h
   ·refine .inr ⟨k,List.mem_cons_self,.inl ?_⟩
    rw[Nat.testBit_shiftLeft]at h;simp only[Bool.and_eq_true,decide_eq_true_eq]at h;have h2:=h.2;rw[Nat.testBit_one_eq_true_iff_self_eq_zero]at h2;omega
   ·exact .inr ⟨k,List.mem_cons_self,.inr h⟩
  ·exact .inr ⟨k',List.mem_cons_of_mem _ hk,h⟩
theorem zgL: ∀{os:List Oper} {acc pre:List _},all=pre++os→acc.length=pre.length→(∀k i,Nat.testBit (acc.getD k 0) i=true→i∈bef all (k+1) k) →
  (zf5 os acc).length=all.length∧ ∀k i,Nat.testBit ((zf5 os acc).getD k 0) i=true→i∈bef all (k+1) k
 | [],acc,pre,h,hl,hi=>⟨by rw[zf5,hl,h,List.append_nil],hi⟩
 | o::os,acc,pre,h,hl,hi=>by
  refine zgL (os:=os) (acc:=acc++ [zig acc (zbd o) 0]) (pre:=pre++ [o]) (by rw[h,List.append_assoc]; rfl) (by rw[List.length_append,List.length_append,hl]; rfl) fun k i hk=> ?_
  rcases Nat.lt_trichotomy k acc.length with hlt | rfl | hgt
  ·rw[List.getD_eq_getElem?_getD,List.getElem?_append_left hlt,← List.getD_eq_getElem?_getD]at hk
   exact hi k i hk
  ·rw[List.getD_eq_getElem?_getD,List.getElem?_append_right (Nat.le_refl _),Nat.sub_self]at hk
   have ho:all[acc.length]? =some o:=by rw[h,hl,List.getElem?_append_right (Nat.le_refl _),Nat.sub_self]; rfl
   rw[bef,ho];simp only[List.getElem?_cons_zero,Option.getD_some]at hk;rcases zgM hk with h0 | ⟨q,hq,rfl | h1⟩
   ·simp at h0
   ·exact List.mem_flatMap.2 ⟨i,hq,List.mem_cons_self⟩
   ·refine List.mem_flatMap.2 ⟨q,hq,List.mem_cons_of_mem _ ?_⟩
    have hql:q<acc.length:=by
     rcases Nat.lt_or_ge q acc.length with h2 | h2
     ·exact h2
     ·rw[List.getD_eq_getElem?_getD,List.getElem?_eq_none h2]at h1; simp at h1
    exact ziZ (by omega) (hi q i h1)
  ·rw[List.getD_eq_getElem?_getD,List.getElem?_eq_none (by simp; omega)]at hk
   simp at hk
theorem zfe {j:Nat} {g:Fp} {m:Nat}: ∀{fs:List Fp} {i:Nat},zeT base j g m i fs=true→ ∀k f,fs[k]? =some f→Nat.testBit m (i+k)=true∨zbC base (i+k) f j g=true
 | [],i,_,k,f,hf=>by simp at hf
 | f0::fs,i,h,k,f,hf=>by
  simp only[zeT,Bool.and_eq_true,Bool.or_eq_true,zj3]at h;cases k with
  | zero =>
   simp at hf; subst hf;exact h.1
  | succ k =>
   have:=zfe h.2 k f (by simpa using hf);rw[show i+(k+1)=i+1+k by omega];exact this
theorem zfd: ∀{gs pre:List Fp} {ms:List Nat} {j:Nat},pre.length=j→zdA base E pre j ms gs=true→ ∀k g,gs[k]? =some g→ ∀i f,i<j+k→(pre++gs)[i]? =some f →
  Nat.testBit (ms.getD k 0) i=true∨zbC base i f (j+k) g=true
 | [],pre,ms,j,_,_,k,g,hg,_,_,_,_=>by simp at hg
 | g0::gs,pre,[],j,hl,h,k,g,hg,i,f,hi,hf=>by simp[zdA]at h
 | g0::gs,pre,m::ms,j,hl,h,k,g,hg,i,f,hi,hf=>by
  simp only[zdA,Bool.and_eq_true]at h;cases k with
  | zero =>
   simp at hg; subst hg;have hf':pre[i]? =some f:=by rw[List.getElem?_append_left (by omega)]at hf; exact hf
   have:=zfe h.1 i f hf';simpa using this
  | succ k =>
   have:=zfd (pre:=pre++ [g0]) (j:=j+1) (by simp[hl]) h.2 k g (by simpa using hg) i f (by omega) (by simpa using hf);rw[show j+(k+1)=j+1+k by omega];simpa using this
theorem ziK {gs:List Fp} (h:zdA base E [] 0 (zf5 all []) gs=true) (k:Nat) (g:Fp) (hk:k<all.length) (hg:gs[k]? =some g) (i:Nat) (f:Fp) (hi:i<k) (hf:gs[i]? =some f) :
  i∈bef all all.length k∨zbC base i f k g=true:=by
 have:=zfd (j:=0) rfl h k g hg i f (by omega) (by simpa using hf);rw[Nat.zero_add]at this;refine this.imp (fun hb=> ?_) id;obtain⟨_,h2⟩:=zgL (all:=all) (os:=all) (acc:= []) (pre:= []) rfl rfl (fun k i h=>by simp at h);exact ziZ (by omega) (h2 k i hb)
theorem ze0: ∀{os:List Oper} {j:Nat},zeR j os=true→ ∀k o,os[k]? =some o→ ∀i∈zbd o,i<j+k
 | [],j,_,k,o,ho=>by simp at ho
 | o0::os,j,h,k,o,ho=>by
  simp only[zeR,Bool.and_eq_true]at h;cases k with
  | zero =>
   simp at ho; subst ho;intro i hi;have:=List.all_eq_true.1 h.1 i hi;have:=Nat.le_of_ble_eq_true this;omega
  | succ k =>
   intro i hi;have:=ze0 h.2 k o (by simpa using ho) i hi;omega
theorem zdF {L:Nat→Bool} (hL: ∀j o,all[j]? =some o→L j=true→ ∀i∈zbd o,L i=true): ∀{f j i:Nat},i∈bef all f j→(∀o,all[j]? =some o→ ∀i∈zbd o,L i=true)→L i=true
 | 0,_,_,h,_=>by simp[bef]at h
 | f+1,j,i,h,hj=>by
  simp only[bef]at h;split at h
  ·rename_i o ho
   simp only[List.mem_flatMap,List.mem_cons]at h;obtain⟨k,hk,rfl | h⟩:=h
   ·exact hj o ho _ hk
   ·exact zdF hL h (fun o' ho'=>hL k o' ho' (hj o ho k hk))
  ·simp at h
end
section
variable {P:Program} {E:Env} {n0:Nat} {M:Nat→Prop} {h0:Home} {base:Nat}
structure OnWay (base:Nat) (l:List (St×Fp)) (z:St) (n:Nat) (ops:List Oper) (L:Nat→Bool) (u:St):Prop where
 nt:u.nt=z.nt
 down: ∀j o,ops[j]? =some o→L j=true→ ∀i∈zbd o,L i=true
 at_: ∀x,∃m,m≤n∧Alike u (zbg l z m) x∧ ∀j,j<n→zay base j (zbb l j) x=true→(L j=true↔j<m)
theorem zis (hE:EnvOk P E) (hG:GOk P E) {ops:Array Oper} {s z:St} {l:List (St×Fp)} {Q:Exit→Act→World→Prop} (hc:Chain E base ops.toList 0 ops.toList s l z)
  (hok:zdz base E ops.toList (l.map (·.2))=true) (hQ: ∀g' X' a' w',Rel n0 M h0 z g' X' a' w'→Q .normal a' w') :
  ∀(fuel:Nat) (listed:Array Bool) (u:St) (g:Gh) (X:List Nat) (a:Act) (w:World),listed.size=ops.size→cnt (fun j=>listed.getD j false) ops.size=fuel →
   OnWay base l z ops.size ops.toList (fun j=>listed.getD j false) u→Rel n0 M h0 u g X a w→wpAny P .any ops Q fuel listed a w:=by
 obtain⟨hlen,hst0,hstn,hlinks⟩:=hc.links
 have hlinks: ∀(i:Nat) (o:Oper),ops[i]? =some o→Link E base ops.toList i o (zbg l z i) (zbg l z (i+1)) (zbb l i):=by
  intro i o ho;have:=hlinks i o (by rw[Array.getElem?_toList]; exact ho);rw[Nat.zero_add]at this; exact this
 unfold zdz at hok;simp only[Bool.and_eq_true]at hok;obtain⟨⟨hedge,hfit⟩,hpairs⟩:=hok
 have hfit': ∀(i:Nat) (o:Oper),ops[i]? =some o→zbn E o=true:=by
  intro i o ho;exact List.all_eq_true.1 hfit o (by rw[← Array.getElem?_toList]at ho; exact List.mem_of_getElem? ho)
 have hfp: ∀i,i<ops.size→(l.map (·.2))[i]? =some (zbb l i):=by
  intro i hi;have:i<l.length:=by rw[hlen]; simpa using hi
  rw[List.getElem?_map];unfold zbb;rw[List.getElem?_eq_getElem this]; rfl
 have hpair: ∀i j,i<j→j<ops.size→i∈bef ops.toList ops.toList.length j∨zbC base i (zbb l i) j (zbb l j)=true:=by
  intro i j hij hj;have:=ziK hpairs j (zbb l j) (by simpa using hj) (hfp j hj) i (zbb l i) hij (hfp i (by omega));exact this
 have hedge': ∀(j:Nat) (o:Oper),ops[j]? =some o→ ∀i∈zbd o,i<j:=by
  intro j o ho i hi;have:=ze0 hedge j o (by rw[Array.getElem?_toList]; exact ho) i hi;omega
 have hget: ∀(i:Nat),i<ops.size→ ∃o,ops[i]? =some o:=fun i hi=>⟨ops[i],Array.getElem?_eq_getElem hi⟩
 have still: ∀x (m k:Nat),m+k≤ops.size→(∀j,m≤j→j<m+k→zay base j (zbb l j) x=false)→Alike (zbg l z (m+k)) (zbg l z m) x:=by
  intro x m k
  induction k with
  | zero=>intro _ _; exact Alike.refl _ _
  | succ k ih =>
   intro hle hw;have h1:=ih (by omega) (fun j h1 h2=>hw j h1 (by omega));obtain⟨o,ho⟩:=hget (m+k) (by omega);have h2:=(zdR (hfit' _ o ho) (hlinks (m+k) o ho)).2 x (hw (m+k) (by omega) (by omega));exact h2.trans h1
 have ntAt: ∀m,m≤ops.size→(zbg l z m).nt=z.nt:=by
  have: ∀k,k≤ops.size→(zbg l z (ops.size-k)).nt=z.nt:=by
   intro k
   induction k with
   | zero =>
    intro _;have h2:zbg l z ops.size=z:=by simpa using hstn
    rw[Nat.sub_zero,h2]
   | succ k ih =>
    intro hk;obtain⟨o,ho⟩:=hget (ops.size-(k+1)) (by omega);have h1:=(zdR (hfit' _ o ho) (hlinks _ o ho)).1;rw[show ops.size-(k+1)+1=ops.size-k by omega]at h1;rw[← h1]; exact ih (by omega)
  intro m hm;have:=this (ops.size-m) (by omega);rwa[show ops.size-(ops.size-m)=m by omega]at this
 have fin: ∀(listed:Array Bool) (u:St) (g:Gh) (X:List Nat) (a:Act) (w:World),OnWay base l z ops.size ops.toList (fun j=>listed.getD j false) u→(∀i,i<ops.size→listed.getD i false=true) →
   Rel n0 M h0 u g X a w→Q .normal a w:=by
  intro listed u g X a w hw hall r
  have:u=z:=by
   refine zgK hw.nt (fun x=> ?_);obtain⟨m,hm,hal,hwr⟩:=hw.at_ x;have h2:zbg l z ops.size=z:=by simpa using hstn
   have h1:=still x m (ops.size-m) (by omega) (fun j h1 h2=>by
    cases hj:zay base j (zbb l j) x with
    | false=>rfl
    | true =>
     have:=(hwr j (by omega) hj).1 (hall j (by omega))
     omega)
   rw[show m+(ops.size-m)=ops.size by omega,h2]at h1;exact hal.trans h1.symm
  subst this;exact hQ _ _ _ _ r
 have none_ready: ∀(listed:Array Bool),listed.size=ops.size→Region.ready .any ops listed= []→ ∀i,i<ops.size→listed.getD i false=true:=by
  intro listed hsz hr i
  induction i using Nat.strongRecOn with
  | _ i ih =>
   intro hi;cases hl:listed.getD i false with
   | true=>rfl
   | false =>
    exfalso
    have:i∈Region.ready .any ops listed:=by
     unfold Region.ready;rw[List.mem_filter];refine⟨List.mem_range.2 hi,?_⟩
     have hl2:listed.getD i true=false:=by
      rw[Array.getD_eq_getD_getElem?,Array.getElem?_eq_getElem (by omega)]at hl ⊢;simpa using hl
     obtain⟨o,ho⟩:=hget i hi;simp only[hl2,Bool.not_false,Bool.true_and,ho,Option.map_some,Option.getD_some];rw[Array.all_eq_true_iff_forall_mem];intro e he;cases hb:Region.binds .any e with
     | false=>rfl
     | true =>
      have hd:e.on∈zbd o:=List.mem_map.2 ⟨e,List.mem_filter.2 ⟨by simpa using he,hb⟩,rfl⟩;have hlt:=hedge' i o ho e.on hd;have:=ih e.on hlt (by omega);simpa using this
    rw[hr]at this;simp at this
 intro fuel
 induction fuel with
 | zero =>
  intro listed u g X a w hsz hcnt hw r;have hall:=fun i hi=>zgU hcnt i hi
  refine⟨?_,fin listed u g X a w hw hall r⟩;unfold Region.ready;rw[List.filter_eq_nil_iff];intro i hi;have hi:=List.mem_range.1 hi;have h1:=hall i hi
  have hl2:listed.getD i true=true:=by
   rw[Array.getD_eq_getD_getElem?,Array.getElem?_eq_getElem (by omega)]at h1 ⊢;simpa using h1
  simp[hl2]
 | succ fuel ih =>
  intro listed u g X a w hsz hcnt hw r;refine⟨fun hr=>fin listed u g X a w hw (none_ready listed hsz hr) r,?_⟩;intro i hi;unfold Region.ready at hi;rw[List.mem_filter]at hi;obtain⟨hir,hic⟩:=hi;have hin:=List.mem_range.1 hir;obtain⟨o,ho⟩:=hget i hin;simp only[ho,Option.map_some,Option.getD_some,Bool.and_eq_true,Bool.not_eq_true']at hic;obtain⟨hun,haf⟩:=hic
  have hun':listed.getD i false=false:=by
   rw[Array.getD_eq_getD_getElem?,Array.getElem?_eq_getElem (by omega)]at hun ⊢;simpa using hun
  have hdir: ∀k∈zbd o,listed.getD k false=true:=by
   intro k hk;unfold zbd at hk;obtain⟨e,he,rfl⟩:=List.mem_map.1 hk;obtain⟨he1,he2⟩:=List.mem_filter.1 he;have:=(Array.all_eq_true_iff_forall_mem.1 haf) e (by simpa using he1);rw[he2]at this;simpa using this
  have ho':ops.toList[i]? =some o:=by rw[Array.getElem?_toList]; exact ho
  have before: ∀j,j∈bef ops.toList ops.toList.length i→listed.getD j false=true:=fun j hj =>
   zdF (L:=fun j=>listed.getD j false) hw.down hj (fun o2 ho2=>by
    rw[ho']at ho2; simp at ho2; subst ho2; exact hdir)
  have behind: ∀j,i∈bef ops.toList ops.toList.length j→j<ops.size→listed.getD j false=true→False:=by
   intro j hj hjn hlj;have:=zdF (L:=fun j=>listed.getD j false) hw.down hj (fun o2 ho2=>hw.down j o2 ho2 hlj);rw[hun']at this; simp at this
  have early: ∀x,zY base i (zbb l i) x=true→ ∀j,j<i→zay base j (zbb l j) x=true→listed.getD j false=true:=by
   intro x hx j hj hwj;rcases hpair j i hj hin with h | h
   ·exact before j h
   ·have:=zfz (by omega) h hwj
    rw[this]at hx; simp at hx
  have late: ∀x,zY base i (zbb l i) x=true→ ∀j,i<j→j<ops.size→zay base j (zbb l j) x=true→listed.getD j false=false:=by
   intro x hx j hj hjn hwj;cases hlj:listed.getD j false with
   | false=>rfl
   | true =>
    rcases hpair i j hj hjn with h | h
    ·exact(behind j h hjn hlj).elim
    ·have:=zfz (by omega) (ziY h) hwj
     rw[this]at hx; simp at hx
  have ahead: ∀x,zY base i (zbb l i) x=true→Alike u (zbg l z i) x:=by
   intro x hx;obtain⟨m,hm,hal,hwr⟩:=hw.at_ x;rcases Nat.le_total m i with hmi | hmi
   ·have h1:=still x m (i-m) (by omega) (fun j h1 h2=>by
     cases hj:zay base j (zbb l j) x with
     | false=>rfl
     | true =>
      have h3:=early x hx j (by omega) hj;have:=(hwr j (by omega) hj).1 h3
      omega)
    rw[show m+(i-m)=i by omega]at h1;exact hal.trans h1.symm
   ·have h1:=still x i (m-i) (by omega) (fun j h1 h2=>by
     cases hj:zay base j (zbb l j) x with
     | false=>rfl
     | true =>
      have h3:=(hwr j (by omega) hj).2 (by omega);rcases Nat.lt_or_ge i j with h4 | h4
      ·rw[late x hx j h4 (by omega) hj]at h3; simp at h3
      ·have:j=i:=by omega
       subst this
       rw[hun']at h3; simp at h3)
    rw[show i+(m-i)=m by omega]at h1;exact hal.trans h1
  obtain⟨u',f',hlink,hnt',hin',hout'⟩:=ziH (hfit' i o ho) (hlinks i o ho) (by rw[hw.nt,ntAt i (by omega)]) ahead;refine zj8 hE hG r ho hlink (fun g' X' a' w' r'=> ?_)
  have hset: ∀j,(listed.setIfInBounds i true).getD j false=if j=i then true else listed.getD j false:=by
   intro j;simp only[Array.getD_eq_getD_getElem?,Array.getElem?_setIfInBounds];by_cases hji:j=i
   ·subst hji; simp[show j<listed.size by omega]
   ·rw[if_neg hji,if_neg (Ne.symm hji)]
  refine ih (listed.setIfInBounds i true) u' g' X' a' w' (by simpa using hsz) ?_ ?_ r'
  ·have:=zh6 (f:=fun j=>listed.getD j false) (g:=fun j=>(listed.setIfInBounds i true).getD j false) (j:=i) (n:=ops.size) hin hun' (by rw[hset]; simp) (fun k hk=>by rw[hset]; simp[hk])
   omega
  ·refine⟨by rw[hnt',hw.nt],fun j o2 ho2 hlj k hk=> ?_,fun x=> ?_⟩
   ·rw[hset]at hlj ⊢
    by_cases hki:k=i
    ·rw[if_pos hki]
    ·rw[if_neg hki]
     by_cases hji:j=i
     ·subst hji
      rw[ho']at ho2; simp at ho2; subst ho2;exact hdir k hk
     ·rw[if_neg hji]at hlj
      exact hw.down j o2 ho2 hlj k hk
   ·cases hx:zY base i (zbb l i) x with
    | true =>
     refine⟨i+1,by omega,hin' x hx,fun j hj hwj=> ?_⟩;rw[hset];by_cases hji:j=i
     ·subst hji; simp
     ·rw[if_neg hji]
      rcases Nat.lt_or_ge j i with h | h
      ·exact⟨fun _=>by omega,fun _=>early x hx j h hwj⟩
      ·rw[late x hx j (by omega) hj hwj]
       constructor
       ·intro h; simp at h
       ·intro h; omega
    | false =>
     obtain⟨m,hm,hal,hwr⟩:=hw.at_ x;refine⟨m,hm,(hout' x hx).trans hal,fun j hj hwj=> ?_⟩;rw[hset]
     have hji:j≠i:=fun h=>by
      subst h;rw[zh4 hwj]at hx; simp at hx
     rw[if_neg hji];exact hwr j hj hwj
theorem zhO {α:Type} (hE:EnvOk P E) (hG:GOk P E) (hm:P.follows .mixedOrders=true) {id:Nat} {ops:Array Oper} {s:St} {g:Gh} {X:List Nat} {a:Act} {w:World} {K:St→Option α} {out:α}
  {Q:Exit→Act→World→Prop} (e:zcC E base ops.toList 0 ops.toList [] s K=some out) (r:Rel n0 M h0 s g X a w)
  (hK: ∀s' g' X' a' w',K s'=some out→Rel n0 M h0 s' g' X' a' w'→Q .normal a' w'):(Code.region id ops true).wp P Q a w:=by
 obtain⟨l,z,hc,hok,hz⟩:=zbE e;have hstart:zbg l z 0=s:=hc.links.2.1;refine wp_region_any hm ?_;have r':Rel n0 M h0 s g X a { w with drawn:=w.drawn+1 }:=r.drawn rfl
 have hrep: ∀j,(Array.replicate ops.size false).getD j false=false:=by
  intro j;rw[Array.getD_eq_getD_getElem?];simp only[Array.getElem?_replicate];split<;>rfl
 have hcount:cnt (fun j=>(Array.replicate ops.size false).getD j false) ops.size=ops.size:=by
  have: ∀n,cnt (fun j=>(Array.replicate ops.size false).getD j false) n=n:=by
   intro n
   induction n with
   | zero=>rfl
   | succ n ih=>simp only[cnt]; rw[ih,hrep]; rfl
  exact this _
 refine zis hE hG hc (by simpa using hok) (fun g' X' a' w' r2=>hK _ _ _ _ _ hz r2) ops.size _ s g X a _ (by simp) hcount ?_ r'
 refine⟨?_,fun j o ho hl=>by simp only[hrep]at hl; simp at hl,fun x=>⟨0,Nat.zero_le _,by rw[hstart]; exact Alike.refl _ _,fun j hj hwj=>by
  simp only[hrep];constructor
  ·intro h; simp at h
  ·intro h; omega⟩⟩
 have hlen:=hc.links;obtain⟨h1,h2,h3,h4⟩:=hlen;unfold zdz at hok;simp only[Bool.and_eq_true]at hok
 have: ∀k,k≤ops.toList.length→(zbg l z k).nt=s.nt:=by
  intro k
  induction k with
  | zero=>intro _; rw[h2]
  | succ k ih =>
   intro hk;have ho:ops.toList[k]? =some ops.toList[k]:=List.getElem?_eq_getElem (by omega);have:=h4 k _ ho;rw[Nat.zero_add]at this;rw[(zdR (List.all_eq_true.1 hok.1.2 _ (List.getElem_mem _)) this).1];exact ih (by omega)
 have:=this ops.toList.length (Nat.le_refl _);rw[h3]at this;exact this.symm
end
inductive TX where
 | normal
 | exit (id:Nat)
 | ret
def TX.to:TX→Exit
 | .normal=> .normal
 | .exit id=> .exit id
 | .ret=> .ret
structure Seg where
 inn:Shape
 out:Shape
 ret:Shape
 F:inn.X→Option (out.X ⊕ ret.X)
structure Fr where
 E:Env
 nt:Nat
 D:Nat→Option Seg
def zhy {α:Type} (nt:Nat) (seg:Seg) (s:St) (K:TX→St→Option α):Option α :=
 match seg.inn.decf nt s with
 | some x=>match seg.F x with
  | some (.inl y)=>K .normal (seg.out.enc nt y)
  | some (.inr z)=>K .ret (seg.ret.enc nt z)
  | none=>none
 | none=>none
def zaz {α:Type} (R:Fr):Code→Nat→St→(TX→St→Option α)→Option α
 | .skip,_,s,K=>K .normal s
 | .ret,_,s,K=>K .ret s
 | .exit id,_,s,K=>K (.exit id) s
 | .region id ops dr,_,s,K=>bif dr then zcC R.E (4096*id) ops.toList 0 ops.toList [] s (K .normal)else zeA R.E (4096*id) ops.toList 0 ops.toList s (K .normal)
 | .seq x y,p,s,K=>match R.D p with
  | some seg=>zhy R.nt seg s K
  | none=>zaz R x (2*p) s (fun e s'=>match e with
   | .normal=>zaz R y (2*p+1) s' K
   | .exit id=>K (.exit id) s'
   | .ret=>K .ret s')
 | .cond c x y,p,s,K=>match R.D p with
  | some seg=>zhy R.nt seg s K
  | none=>match ze s c with
   | .c (.bool b)=>bif b then zaz R x (2*p) s K else zaz R y (2*p+1) s K
   | _=>none
 | .block id c,p,s,K=>match R.D p with
  | some seg=>zhy R.nt seg s K
  | none=>zaz R c (2*p) s (fun e s'=>match e with
   | .normal=>K .normal s'
   | .exit j=>bif Nat.beq j id then K .normal s' else K (.exit j) s'
   | .ret=>K .ret s')
 | _,_,_,_=>none
def zjZ:Code→Nat→Option Code
 | .seq x y,b=>some (bif Nat.beq b 0 then x else y)
 | .cond _ x y,b=>some (bif Nat.beq b 0 then x else y)
 | .block _ c,_=>some c
 | .loop c,_=>some c
 | _,_=>none
def zd7 (root:Code):Nat→Nat→Option Code
 | 0,_=>none
 | f+1,p=>bif Nat.ble p 1 then some root else(match zd7 root f (p / 2)with
  | some c=>zjZ c (p % 2)
  | none=>none)
def At' (root:Code) (p:Nat) (c:Code):Prop:=1≤p∧ ∃f,zd7 root f p=some c
section
variable {P:Program} {E:Env} {n0:Nat} {M:Nat→Prop} {h0:Home} {s s':St} {g:Gh} {X:List Nat} {a:Act} {w:World} {o:Oper}
theorem zeK {root:Code}: ∀{f p:Nat} {c:Code},zd7 root f p=some c→ ∀k,zd7 root (f+k) p=some c
 | 0,_,_,e,_=>by simp[zd7]at e
 | f+1,p,c,e,k=>by
  rw[show f+1+k=(f+k)+1 by omega];simp only[zd7]at e ⊢;cases hb:Nat.ble p 1 with
  | true=>rw[hb]at e; exact e
  | false =>
   rw[hb]at e;simp only[cond_false]at e ⊢;split at e
   ·rename_i c' h
    rw[zeK h k]; exact e
   ·simp at e
theorem At'.one {root:Code} {p:Nat} {c c':Code} (h:At' root p c) (h':At' root p c'):c=c':=by
 obtain⟨_,f,h⟩:=h;obtain⟨_,f',h'⟩:=h';have h1:=zeK h f';have h2:=zeK h' f;rw[Nat.add_comm]at h2;rw[h1]at h2;simpa using h2
theorem At'.root (root:Code):At' root 1 root:=⟨Nat.le_refl _,1,rfl⟩
theorem At'.down {root:Code} {p b:Nat} {c c':Code} (h:At' root p c) (hb:b<2) (hc:zjZ c b=some c'):At' root (2*p+b) c':=by
 obtain⟨h1,f,h⟩:=h;refine⟨by omega,f+1,?_⟩;have h2:(2*p+b) / 2=p:=by omega
 have h3:(2*p+b) % 2=b:=by omega
 have h4:Nat.ble (2*p+b) 1=false:=by
  cases h5:Nat.ble (2*p+b) 1 with
  | true=>have:=Nat.le_of_ble_eq_true h5; omega
  | false=>rfl
 simp only[zd7,h2,h3,h4,cond_false,h];exact hc
def zfx (P:Program) (nt:Nat) (c:Code) (seg:Seg):Prop :=∀(n0:Nat) (M:Nat→Prop) (h0:Home) (x:seg.inn.X) (r:seg.out.X ⊕ seg.ret.X) (g:Gh) (X:List Nat) (a:Act) (w:World),seg.F x=some r→Rel n0 M h0 (seg.inn.enc nt x) g X a w → c.wp P (fun e a' w'=>(∃y g' X',r= .inl y∧e= .normal∧Rel n0 M h0 (seg.out.enc nt y) g' X' a' w')∨(∃z g' X',r= .inr z∧e= .ret∧Rel n0 M h0 (seg.ret.enc nt z) g' X' a' w')) a w
structure FrOk (P:Program) (R:Fr) (root:Code):Prop where
 mixed:P.follows .mixedOrders=true
 env:EnvOk P R.E
 g:GOk P R.E
 seg: ∀p c sg,At' root p c→R.D p=some sg→zfx P R.nt c sg
theorem zd6 {α:Type} {nt:Nat} {seg:Seg} {c:Code} (hs:zfx P nt c seg) {K:TX→St→Option α} {out:α} {Q:Exit→Act→World→Prop} (e:zhy nt seg s K=some out) (r:Rel n0 M h0 s g X a w)
  (hK: ∀e s' g' X' a' w',K e s'=some out→Rel n0 M h0 s' g' X' a' w'→Q e.to a' w'):c.wp P Q a w:=by
 unfold zhy at e;split at e
 ·rename_i x hx
  split at e
  ·rename_i y hF
   obtain⟨g2,X2,r2⟩:=za8 r hx;refine wp_mono (hs n0 M h0 x _ g2 X2 a w hF r2) ?_
   rintro ex a' w' (⟨y',g',X',h1,rfl,h2⟩ | ⟨z,g',X',h1,rfl,h2⟩)
   ·simp at h1; subst h1; exact hK .normal _ _ _ _ _ e h2
   ·simp at h1
  ·rename_i z hF
   obtain⟨g2,X2,r2⟩:=za8 r hx;refine wp_mono (hs n0 M h0 x _ g2 X2 a w hF r2) ?_
   rintro ex a' w' (⟨y',g',X',h1,rfl,h2⟩ | ⟨z',g',X',h1,rfl,h2⟩)
   ·simp at h1
   ·simp at h1; subst h1; exact hK .ret _ _ _ _ _ e h2
  ·simp at e
 ·simp at e
theorem zaC {α:Type} {R:Fr} {root:Code} (hR:FrOk P R root) {out:α}: ∀(c:Code) (p:Nat) (s:St) (K:TX→St→Option α) (g:Gh) (X:List Nat) (a:Act) (w:World) (Q:Exit→Act→World→Prop),
  At' root p c→zaz R c p s K=some out→Rel n0 M h0 s g X a w→(∀e s' g' X' a' w',K e s'=some out→Rel n0 M h0 s' g' X' a' w'→Q e.to a' w')→c.wp P Q a w
 | .skip,p,s,K,g,X,a,w,Q,hp,e,r,hK=>wp_skip (hK .normal _ _ _ _ _ e r)
 | .ret,p,s,K,g,X,a,w,Q,hp,e,r,hK=>wp_ret (hK .ret _ _ _ _ _ e r)
 | .exit id,p,s,K,g,X,a,w,Q,hp,e,r,hK=>wp_exit (hK (.exit id) _ _ _ _ _ e r)
 | .region id ops dr,p,s,K,g,X,a,w,Q,hp,e,r,hK=>by
  simp only[zaz]at e;cases dr with
  | true =>
   simp only[cond_true]at e;exact zhO hR.env hR.g hR.mixed e r (hK .normal)
  | false =>
   simp only[cond_false]at e;refine wp_region ?_;have:=zfQ hR.env hR.g (Q:=Q) (ops:=ops) (hK .normal) ops.toList 0 s g X a w rfl e r;rw[List.range_eq_range'];simpa using this
 | .seq x y,p,s,K,g,X,a,w,Q,hp,e,r,hK=>by
  simp only[zaz]at e;split at e
  ·rename_i sg hsg
   exact zd6 (hR.seg p _ sg hp hsg) e r hK
  ·refine wp_seq (zaC hR x _ s _ g X a w _ (hp.down (b:=0) (by omega) rfl) e r ?_)
   intro ex s' g' X' a' w' e' r';cases ex with
   | normal=>exact zaC hR y _ s' K g' X' a' w' Q (hp.down (b:=1) (by omega) rfl) e' r' hK
   | exit id=>exact hK (.exit id) _ _ _ _ _ e' r'
   | ret=>exact hK .ret _ _ _ _ _ e' r'
 | .cond c x y,p,s,K,g,X,a,w,Q,hp,e,r,hK=>by
  simp only[zaz]at e;split at e
  ·rename_i sg hsg
   exact zd6 (hR.seg p _ sg hp hsg) e r hK
  ·split at e
   ·rename_i b hb
    have hev:=(zf r c).1;rw[hb]at hev;have hval:a.eval c= .bool b:=hev;refine wp_cond hval ?_;cases b with
    | true=>exact zaC hR x _ s K g X a w Q (hp.down (b:=0) (by omega) rfl) e r hK
    | false=>exact zaC hR y _ s K g X a w Q (hp.down (b:=1) (by omega) rfl) e r hK
   ·simp at e
 | .block id c,p,s,K,g,X,a,w,Q,hp,e,r,hK=>by
  simp only[zaz]at e;split at e
  ·rename_i sg hsg
   exact zd6 (hR.seg p _ sg hp hsg) e r hK
  ·refine wp_block (zaC hR c _ s _ g X a w _ (hp.down (b:=0) (by omega) rfl) e r ?_)
   intro ex s' g' X' a' w' e' r';cases ex with
   | normal=>exact hK .normal _ _ _ _ _ e' r'
   | exit j =>
    simp only at e';show if j=id then Q .normal a' w' else Q (.exit j) a' w'
    cases hj:Nat.beq j id with
    | true =>
     rw[hj]at e';rw[if_pos (Nat.eq_of_beq_eq_true hj)];exact hK .normal _ _ _ _ _ e' r'
    | false =>
     rw[hj]at e';rw[if_neg (fun h=>by subst h; simp at hj)];exact hK (.exit j) _ _ _ _ _ e' r'
   | ret=>exact hK .ret _ _ _ _ _ e' r'
 | .loop _,_,_,_,_,_,_,_,_,_,e,_,_=>by simp[zaz]at e
 | .rangeFunc _ _ _ _,_,_,_,_,_,_,_,_,_,e,_,_=>by simp[zaz]at e
 | .scope _,_,_,_,_,_,_,_,_,_,e,_,_=>by simp[zaz]at e
 | .label _,_,_,_,_,_,_,_,_,_,e,_,_=>by simp[zaz]at e
 | .goto _,_,_,_,_,_,_,_,_,_,e,_,_=>by simp[zaz]at e
 | .refuse _,_,_,_,_,_,_,_,_,_,e,_,_=>by simp[zaz]at e
def ziM (R:Fr) (c:Code) (p:Nat) (i o z:Shape) (x:i.X):Option (o.X ⊕ z.X) :=
 zaz R c p (i.enc R.nt x) (fun e s=>match e with
  | .normal=>(match o.decf R.nt s with
   | some y=>some (.inl y)
   | none=>none)
  | .ret=>(match z.decf R.nt s with
   | some y=>some (.inr y)
   | none=>none)
  | .exit _=>none)
theorem zjS {R:Fr} {root:Code} (hR:FrOk P R root) {c:Code} {p:Nat} {sg:Seg} (hp:At' root p c) (h: ∀x r,sg.F x=some r→ziM R c p sg.inn sg.out sg.ret x=some r):zfx P R.nt c sg:=by
 intro n0 M h0 x rr g X a w hF r;have e:=h x rr hF;unfold ziM at e;refine zaC hR c p _ _ g X a w _ hp e r ?_;intro ex s' g' X' a' w' e' r';cases ex with
 | normal =>
  simp only at e';split at e'
  ·rename_i y hy
   simp at e';obtain⟨g2,X2,r2⟩:=za8 r' hy;exact .inl ⟨y,g2,X2,e'.symm,rfl,r2⟩
  ·simp at e'
 | ret =>
  simp only at e';split at e'
  ·rename_i y hy
   simp at e';obtain⟨g2,X2,r2⟩:=za8 r' hy;exact .inr ⟨y,g2,X2,e'.symm,rfl,r2⟩
  ·simp at e'
 | exit id=>simp at e'
def zhu (R:Fr) (id:Nat) (c:Code) (p:Nat) (i o z:Shape) (x:i.X):Option (i.X ⊕ (o.X ⊕ z.X)) :=
 zaz R c p (i.enc R.nt x) (fun e s=>match e with
  | .normal=>(match i.decf R.nt s with
   | some y=>some (.inl y)
   | none=>none)
  | .exit j=>bif Nat.beq j id then(match o.decf R.nt s with
   | some y=>some (.inr (.inl y))
   | none=>none)else none
  | .ret=>(match z.decf R.nt s with
   | some y=>some (.inr (.inr y))
   | none=>none))
def zF {A B:Type} (step:A→Option (A ⊕ B)):Nat→A→Option B
 | 0,_=>none
 | n+1,x=>match step x with
  | some (.inl y)=>zF step n y
  | some (.inr r)=>some r
  | none=>none
theorem zjR {R:Fr} {root:Code} (hR:FrOk P R root) {id:Nat} {c:Code} {p:Nat} {sg:Seg} (L:Shape) (emb:sg.inn.X→L.X) (hp:At' root p (.block id (.loop c))) (step:L.X→Option (L.X ⊕ (sg.out.X ⊕ sg.ret.X))) (fuel:sg.inn.X→Nat)
  (hf:sg.inn.fine R.nt=true) (he: ∀x,sg.inn.enc R.nt x=L.enc R.nt (emb x)) (hF: ∀x r,sg.inn.Ok x→sg.F x=some r→zF step (fuel x) (emb x)=some r)
  (h: ∀x r,step x=some r→zhu R id c (2*(2*p)) L sg.out sg.ret x=some r):zfx P R.nt (.block id (.loop c)) sg:=by
 intro n0 M h0 x rr g X a w hx r;have hx:=hF x rr (zkp r hf) hx;rw[he]at r;have hp1:At' root (2*p) (.loop c):=hp.down (b:=0) (by omega) rfl;have hp2:At' root (2*(2*p)) c:=hp1.down (b:=0) (by omega) rfl;refine wp_block (wp_loop_ghost (fun n a w=> ∃x g X,zF step n x=some rr∧Rel n0 M h0 (L.enc R.nt x) g X a w) (fuel x) ⟨emb x,g,X,hx,r⟩ ?_)
 rintro n a1 w1 ⟨x1,g1,X1,e1,r1⟩
 cases n with
 | zero=>simp[zF]at e1
 | succ n =>
  simp only[zF]at e1
  have hstep: ∃q,step x1=some q∧(match q with
    | .inl y=>zF step n y=some rr
    | .inr r=>r=rr):=by
   split at e1
   ·rename_i y hs; exact⟨_,hs,e1⟩
   ·rename_i y hs; exact⟨_,hs,by simpa using e1⟩
   ·simp at e1
  obtain⟨q,hs,hq⟩:=hstep;have e:=h x1 q hs;unfold zhu at e;refine zaC hR c _ _ _ g1 X1 a1 w1 _ hp2 e r1 ?_;intro ex s' g' X' a' w' e' r';cases ex with
  | normal =>
   simp only at e';split at e'
   ·rename_i y hy
    simp at e'; subst e';obtain⟨g2,X2,r2⟩:=za8 r' hy;exact⟨n,Nat.lt_succ_self _,y,g2,X2,hq,r2⟩
   ·simp at e'
  | exit j =>
   simp only at e';show(if j=id then _ else _);cases hj:Nat.beq j id with
   | true =>
    rw[hj]at e';rw[if_pos (Nat.eq_of_beq_eq_true hj)];simp only[cond_true]at e';split at e'
    ·rename_i y hy
     simp at e'; subst e';simp only at hq; subst hq;obtain⟨g2,X2,r2⟩:=za8 r' hy;exact .inl ⟨y,g2,X2,rfl,rfl,r2⟩
    ·simp at e'
   | false=>rw[hj]at e'; simp at e'
  | ret =>
   simp only at e';split at e'
   ·rename_i y hy
    simp at e'; subst e';simp only at hq; subst hq;obtain⟨g2,X2,r2⟩:=za8 r' hy;exact .inr ⟨y,g2,X2,rfl,rfl,r2⟩
   ·simp at e'
theorem FrOk.add {E:Env} {nt:Nat} {D:Nat→Option Seg} {root:Code} (hR:FrOk P ⟨E,nt,D⟩ root) {p:Nat} {c:Code} {sg:Seg} (hp:At' root p c) (hs:zfx P nt c sg) :
  FrOk P ⟨E,nt,fun q=>bif Nat.beq q p then some sg else D q⟩ root where
 mixed:=hR.mixed
 env:=hR.env
 g:=hR.g
 seg:=by
  intro q c' sg' hq e;simp only at e;cases hb:Nat.beq q p with
  | true =>
   rw[hb]at e; simp at e; subst e;have:=Nat.eq_of_beq_eq_true hb; subst this;rw[hq.one hp]; exact hs
  | false=>rw[hb]at e; exact hR.seg q c' sg' hq e
end
def zbc:(ps:List Par)→Nat→InD ps→St→Option (List V×St)
 | [],_,_,s=>some ([],s)
 | .rd t::ps,j,x,s=>match zbc ps (j+1) x.2 s with
  | some (vs,s)=>some (zv t.isSt ((t.flat x.1).map (ldC false))::vs,s)
  | none=>none
 | .fn f t::ps,j,x,s=>match zbc ps (j+1) x.2 s with
  | some (vs,s)=>some (.c (.fx f t x.1)::vs,s)
  | none=>none
 | .rp t::ps,j,x,s=>match zbc ps (j+1) x.2 s with
  | some (vs,s)=>some (.c (.ef false t x.1 0)::vs,s)
  | none=>none
 | .kp t a::ps,j,x,s=>match zo s (900000000+64*j) (t.flat x.1) (a.flat t)with
  | some (cs,s1)=>match zbc ps (j+1) x.2 s1 with
   | some (vs,s)=>some (zv t.isSt cs::vs,s)
   | none=>none
  | none=>none
 | .mt t a::ps,j,x,s=>match zo s (1000001000+64*j) (t.flat x.1) (a.flat t)with
  | some (cs,s1)=>match zbc ps (j+1) x.2 s1 with
   | some (vs,s)=>some (zv t.isSt cs::vs,s)
   | none=>none
  | none=>none
 | .pt t a::ps,j,x,s=>match zo s (900000000+64*j) (t.flat x.1) (a.flat t)with
  | some (cs,s1)=>match zQ s1 (1000000000+j) cs with
   | some s2=>match zbc ps (j+1) x.2 s2 with
    | some (vs,s)=>some (.c (.ptr (1000000000+j) 0)::vs,s)
    | none=>none
   | none=>none
  | none=>none
def zho (s:St):C→Bool
 | .at k=>(s.sh.regs k).isSome&&s.used k&&Nat.ble 1000000000 k
 | .int _ _=>true
 | .bool _=>true
 | .fz _ _=>true
 | _=>false
def zbf (s:St):List Par→List V→Bool
 | [],[]=>true
 | .mt t _::ps,v::vs=>(match zy t.isSt v with | some cs=>cs.all (zho s) | none=>false)&&zbf s ps vs
 | .pt _ _::ps,v::vs=>(match v with | .c (.ptr k off)=>Nat.beq off 0&&(s.sh.boxes k).isSome&&s.used k&&Nat.ble 1000000000 k | _=>false)&&zbf s ps vs
 | _::ps,_::vs=>zbf s ps vs
 | _,_=>false
section
variable {P:Program} {E:Env} {n0:Nat} {M:Nat→Prop} {h0:Home} {s s':St} {g:Gh} {X:List Nat} {a:Act} {w:World}
theorem Rel.dropBox (r:Rel n0 M h0 s g X a w) {k:Nat} {cs:List C} (hk:s.sh.boxes k=some cs) :
  Rel n0 M h0 { s with sh:={ s.sh with boxes:=zg s.sh.boxes k none } } g (g.bx k::X) a w:=by
 have kk: ∀j,s.used j=true→KeyOk s.sh { s.sh with boxes:=zg s.sh.boxes k none } g g (hp w) (hp w) j:=by
  intro j hj;refine⟨fun c' hc=> ?_,fun e' he=>⟨e',he,rfl,Nat.le_refl _,fun _=>⟨rfl,fun _ _=>rfl⟩⟩⟩;change zg s.sh.boxes k none j=some c' at hc;rw[zJ]at hc;split at hc
  ·simp at hc
  ·exact⟨⟨c',hc⟩,rfl⟩
 have hold: ∀o b,zu { s.sh with boxes:=zg s.sh.boxes k none } g (g.bx k::X) o b→(o= .ext∧b=g.bx k)∨(o≠ .box k∧zu s.sh g X o b):=by
  intro o b hh;cases o with
  | reg j=>exact .inr ⟨by simp,hh⟩
  | box j =>
   obtain⟨⟨e,he⟩,hb⟩:=hh;change zg s.sh.boxes k none j=some e at he;rw[zJ]at he;split at he
   ·simp at he
   ·exact .inr ⟨by simp[*],⟨e,he⟩,hb⟩
  | ext=>exact(List.mem_cons.1 hh).elim (fun h=> .inl ⟨rfl,h⟩) (fun h=> .inr ⟨by simp,h⟩)
 refine r.change (Over.refl g _) (Nat.le_refl _) kk (fun _ h=>h) ?_ ?_ r.zs ?_ ?_ ?_ (fun _ _ _=>rfl)
 ·intro j c hj
  change zg s.sh.boxes k none j=some c at hj;rw[zJ]at hj;split at hj
  ·simp at hj
  ·exact⟨r.ub j c hj,r.uc j c hj,r.box_over (Over.refl g _) kk hj rfl rfl⟩
 ·intro j e he
  exact⟨r.ur j e he,r.nd j e he,r.rg j e he⟩
 ·intro o b hh
  rcases hold o b hh with⟨rfl,rfl⟩ | ⟨_,hh⟩
  ·exact r.mine (.box k) _ ⟨⟨cs,hk⟩,rfl⟩
  ·exact r.mine o b hh
 ·intro o1 o2 b h1 h2
  rcases hold o1 b h1 with⟨rfl,hb1⟩ | ⟨n1,h1⟩<;>rcases hold o2 b h2 with⟨rfl,hb2⟩ | ⟨n2,h2⟩
  ·rfl
  ·exact absurd (r.uniq (.box k) o2 b ⟨⟨cs,hk⟩,hb1.symm⟩ h2).symm n2
  ·exact absurd (r.uniq (.box k) o1 b ⟨⟨cs,hk⟩,hb2.symm⟩ h1).symm n1
  ·exact r.uniq o1 o2 b h1 h2
 ·refine List.nodup_cons.2 ⟨fun h=> ?_,r.nx⟩
  have:=r.uniq (.box k) .ext _ ⟨⟨cs,hk⟩,rfl⟩ h;simp at this
theorem zgZ {sh:Sh} {h:za} {k:Nat} {cs:List C} {vs:List Value} (hreg: ∀k e,sh.regs k=some e→Own h g.Z (.sl e.pk.t) (.ow e.pk.a) e.pk.l [g.hd k] (g.fp k)) (e:CRels sh g h cs vs) :
  CRels { sh with boxes:=zg sh.boxes k none } g h cs vs:=by
 refine CRels.over (Over.refl g h) hreg (fun c _ j _=>⟨fun x hx=> ?_,fun e he=>⟨e,he,rfl,Nat.le_refl _,fun _=>⟨rfl,fun _ _=>rfl⟩⟩⟩) e;change zg sh.boxes k none j=some x at hx;rw[zJ]at hx;split at hx
 ·simp at hx
 ·exact⟨⟨x,hx⟩,rfl⟩
theorem VRels.keeps {sh':St} {g':Gh} {h:za} (k:Keeps s sh' g g' h): ∀{l:List V} {vs:List Value},(∀v∈l,∀j∈v.refs,s.used j=true)→VRels s.sh g h l vs→VRels sh'.sh g' h l vs
 | [],[],_,_=>trivial
 | x::l,v::vs,hu,e=>⟨(by
   have h1:=e.1;have hu1:=hu x (by simp);cases x with
   | c x=>exact(k.2.1 [x] [v] ⟨h1,trivial⟩ (fun c hc j hj=>by simp at hc; subst hc; exact hu1 j hj)).1
   | agg cs =>
    obtain⟨us,rfl,h2⟩:=h1;exact⟨us,rfl,k.2.1 cs us h2 (fun c hc j hj=>hu1 j (List.mem_flatMap.2 ⟨c,hc,hj⟩))⟩
   | tup ps =>
    obtain⟨us,rfl,h2⟩:=h1;exact⟨us,rfl,VRel1s.keeps k (fun p hp c hc j hj=>hu1 j (List.mem_flatMap.2 ⟨p,hp,List.mem_flatMap.2 ⟨c,hc,hj⟩⟩)) h2⟩
   | junk=>trivial),VRels.keeps k (fun v hv=>hu v (by simp[hv])) e.2⟩
theorem zjN {z:Bool} {d:LD}:(ldC z d).refs= []:=by
 cases d with
 | sl t l=>cases z<;>rfl
 | _=>rfl
theorem zhX {sh:Sh} {h:za} {z:Bool} {t:Ty} {x:t.D} {cs:List Value} (e:Rd h (fun b=>g.Z b∨(z=false∧g.R b)) t x cs) :
  VRel sh g h (zv t.isSt ((t.flat x).map (ldC z))) (zaj t cs):=by
 have h1:=(zdP (sh:=sh) (zbw.1 e)).1;exact(zbP (ag:=t.isSt) h1).1
theorem zaV: ∀{ps:List Par} {x:InD ps} {args:List Value} {fs:List (List Nat)} {j:Nat} {s s':St} {g:Gh} {X X':List Nat} {vs:List V},Rel n0 M h0 s g X a w→zbc ps j x s=some (vs,s') →
  ArgsOk (hp w) g.Z g.R ps x args fs→X.Perm (fs.flatten++X') →
  ∃g',g'.Z=g.Z∧Rel n0 M h0 s' g' X' a w∧VRels s'.sh g' (hp w) vs args∧(∀v∈vs,∀k∈v.refs,s'.used k=true)∧Keeps s s' g g' (hp w)
 | [],x,[],[],j,s,s',g,X,X',vs,r,e,ha,hp'=>by
  simp[zbc]at e; obtain⟨rfl,rfl⟩:=e;exact⟨g,rfl,r.dropExt (fp:= []) (by simpa using hp'),trivial,by simp,Keeps.refl _ _ _⟩
 | .rd t::ps,x,v::args,f::fs,j,s,s',g,X,X',vs,r,e,ha,hp'=>by
  simp only[zbc]at e;split at e
  ·rename_i vs1 s1 h1
   simp at e; obtain⟨rfl,rfl⟩:=e;obtain⟨⟨cs,rfl,hrd⟩,rfl,ha⟩:=ha;obtain⟨g1,hz,r1,hv,hu,k1⟩:=zaV r h1 ha (by simpa using hp');refine⟨g1,hz,r1,⟨zhX (z:=false) ?_,hv⟩,fun u hu' k hk=> ?_,k1⟩
   ·rw[hz,k1.2.2.2.2]
    exact Rd.keep (fun _ _=>rfl) (fun b hb=>hb.imp id (fun h=>⟨rfl,h⟩)) hrd
   ·rcases List.mem_cons.1 hu' with rfl | hu'
    ·obtain⟨c,hc,hk⟩:=zb8 k hk
     simp only[List.mem_map]at hc;obtain⟨d,_,rfl⟩:=hc;rw[zjN]at hk; simp at hk
    ·exact hu u hu' k hk
  ·simp at e
 | .fn i t::ps,x,v::args,f::fs,j,s,s',g,X,X',vs,r,e,ha,hp'=>by
  simp only[zbc]at e;split at e
  ·rename_i vs1 s1 h1
   simp at e; obtain⟨rfl,rfl⟩:=e;obtain⟨⟨b,o,cs,rfl,hZ,hcs,hrd⟩,rfl,ha⟩:=ha;obtain⟨g1,hz,r1,hv,hu,k1⟩:=zaV r h1 ha (by simpa using hp');refine⟨g1,hz,r1,⟨⟨trivial,b,o,cs,rfl,?_,hcs,?_⟩,hv⟩,fun u hu' k hk=> ?_,k1⟩
   ·rw[hz,k1.2.2.2.2]; exact hZ
   ·rw[hz,k1.2.2.2.2]; exact hrd
   ·rcases List.mem_cons.1 hu' with rfl | hu'
    ·simp[V.refs,C.refs]at hk
    ·exact hu u hu' k hk
  ·simp at e
 | .rp t::ps,x,v::args,f::fs,j,s,s',g,X,X',vs,r,e,ha,hp'=>by
  simp only[zbc]at e;split at e
  ·rename_i vs1 s1 h1
   simp at e; obtain⟨rfl,rfl⟩:=e;obtain⟨⟨b,o,cs,rfl,hZ,hcs,hrd⟩,rfl,ha⟩:=ha;obtain⟨g1,hz,r1,hv,hu,k1⟩:=zaV r h1 ha (by simpa using hp');refine⟨g1,hz,r1,⟨⟨trivial,b,o,cs,rfl,?_,hcs,?_⟩,hv⟩,fun u hu' k hk=> ?_,k1⟩
   ·rw[hz,k1.2.2.2.2]; exact hZ.imp id (fun h=>⟨rfl,h⟩)
   ·rw[hz,k1.2.2.2.2]; exact Rd.keep (fun _ _=>rfl) (fun b hb=>hb.imp id (fun h=>⟨rfl,h⟩)) hrd
   ·rcases List.mem_cons.1 hu' with rfl | hu'
    ·simp[V.refs,C.refs]at hk
    ·exact hu u hu' k hk
  ·simp at e
 | .kp t an::ps,x,v::args,f::fs,j,s,s',g,X,X',vs,r,e,ha,hp'=>by
  simp only[zbc]at e;split at e
  ·rename_i cs s1 h1
   split at e
   ·rename_i vs1 s2 h2
    simp at e; obtain⟨rfl,rfl⟩:=e;obtain⟨⟨us,rfl,how⟩,ha⟩:=ha;obtain⟨ff,rfl,hol⟩:=zE.1 how;obtain⟨g1,hz1,r1,hc1,hu1,k1⟩:=zag (X':=fs.flatten++X') r h1 hol (by simpa using hp');obtain⟨g2,hz2,r2,hv2,hu2,k2⟩:=zaV r1 h2 (by rw[hz1,k1.2.2.2.2]; exact ha) (.refl _);refine⟨g2,hz2.trans hz1,r2,⟨(zbP (ag:=t.isSt) (k2.2.1 _ _ hc1 hu1)).1,hv2⟩,fun u hu' k hk=> ?_,k1.trans k2⟩;rcases List.mem_cons.1 hu' with rfl | hu'
    ·obtain⟨c,hc,hk⟩:=zb8 k hk
     exact k2.1 k (hu1 c hc k hk)
    ·exact hu2 u hu' k hk
   ·simp at e
  ·simp at e
 | .mt t an::ps,x,v::args,f::fs,j,s,s',g,X,X',vs,r,e,ha,hp'=>by
  simp only[zbc]at e;split at e
  ·rename_i cs s1 h1
   split at e
   ·rename_i vs1 s2 h2
    simp at e; obtain⟨rfl,rfl⟩:=e;obtain⟨⟨us,rfl,how⟩,ha⟩:=ha;obtain⟨ff,rfl,hol⟩:=zE.1 how;obtain⟨g1,hz1,r1,hc1,hu1,k1⟩:=zag (X':=fs.flatten++X') r h1 hol (by simpa using hp');obtain⟨g2,hz2,r2,hv2,hu2,k2⟩:=zaV r1 h2 (by rw[hz1,k1.2.2.2.2]; exact ha) (.refl _);refine⟨g2,hz2.trans hz1,r2,⟨(zbP (ag:=t.isSt) (k2.2.1 _ _ hc1 hu1)).1,hv2⟩,fun u hu' k hk=> ?_,k1.trans k2⟩;rcases List.mem_cons.1 hu' with rfl | hu'
    ·obtain⟨c,hc,hk⟩:=zb8 k hk
     exact k2.1 k (hu1 c hc k hk)
    ·exact hu2 u hu' k hk
   ·simp at e
  ·simp at e
 | .pt t an::ps,x,v::args,f::fs,j,s,s',g,X,X',vs,r,e,ha,hp'=>by
  simp only[zbc]at e;split at e
  ·rename_i cs s1 h1
   split at e
   ·rename_i s2 hbx
    split at e
    ·rename_i vs1 s3 h2
     simp at e; obtain⟨rfl,rfl⟩:=e;obtain⟨⟨b,c,T,f',rfl,hblk,how,rfl⟩,ha⟩:=ha;obtain⟨ff,rfl,hol⟩:=zE.1 how
     obtain⟨g1,hz1,r1,hc1,hu1,k1⟩:=zag (X':=b::(fs.flatten++X')) r h1 hol (by
      rw[List.perm_iff_count]at hp' ⊢;intro z;have:=hp' z;simp only[List.flatten_cons,List.count_append,List.count_cons]at this ⊢
      omega)
     obtain⟨g2,hz2,r2,hc2,hu2,k2⟩:=zdm r1 hbx hblk hc1 hu1;obtain⟨g3,hz3,r3,hv3,hu3,k3⟩:=zaV r2 h2 (by rw[hz2,hz1,k2.2.2.2.2,k1.2.2.2.2]; exact ha) (.refl _)
     refine⟨g3,(hz3.trans hz2).trans hz1,r3,⟨(k3.2.1 [.ptr (1000000000+j) 0] [_] ⟨hc2,trivial⟩ (fun c hc k hk=>by
      simp at hc; subst hc; simp[C.refs]at hk; subst hk; exact hu2)).1,hv3⟩,fun u hu' k hk=> ?_,(k1.trans k2).trans k3⟩
     rcases List.mem_cons.1 hu' with rfl | hu'
     ·simp[V.refs,C.refs]at hk; subst hk; exact k3.1 _ hu2
     ·exact hu3 u hu' k hk
    ·simp at e
   ·simp at e
  ·simp at e
 | [],_,_::_,_,_,_,_,_,_,_,_,_,_,ha,_=>by cases ha
 | [],_,[],_::_,_,_,_,_,_,_,_,_,_,ha,_=>by cases ha
 | p::_,_,[],_,_,_,_,_,_,_,_,_,_,ha,_=>by cases p<;>cases ha
 | p::_,_,_::_,[],_,_,_,_,_,_,_,_,_,ha,_=>by cases p<;>cases ha
end
def zdk:List V→Nat→Nat→V
 | [],_=>fun _=> .junk
 | v::vs,j=>zg (zdk vs (j+1)) j v
def zan (nt:Nat):St:={ nt,tmps:=fun _=> .junk,sh:={ boxes:=fun _=>none,regs:=fun _=>none },used:=fun _=>false }
def zfv (E:Env) (s:St) (t:Ty):ResultVar→Option (List C)
 | .tmp i=>zy t.isSt (ze s (.tmp i))
 | .cell i tid=>match E.TT tid with
  | some ti=>match ze s (.tmp i)with
   | .c c=>match zam s.sh ti.ty.size c with
    | some cs=>bif Nat.beq cs.length ti.ty.size&&(bif ti.ty.isSt then t.isSt else !t.isSt)then some cs else none
    | none=>none
   | _=>none
  | none=>none
def zdL (E:Env) (s:St):List ResultVar→(os:List OT)→Sh→Option (zaY os×Sh)
 | [],[],sh=>some ((),sh)
 | rv::rvs,⟨false,t,a⟩::os,sh=>match zfv E s t rv with
  | some cs=>match mvT sh t a cs with
   | some (x,sh1)=>match zdL E s rvs os sh1 with
    | some (xs,sh2)=>some ((x,xs),sh2)
    | none=>none
   | none=>none
  | none=>none
 | rv::rvs,⟨true,t,a⟩::os,sh=>match rv with
  | .tmp i=>match ze s (.tmp i)with
   | .c (.ptr k off)=>bif Nat.beq off 0 then(match sh.boxes k with
    | some cs=>match mvT sh t a cs with
     | some (x,sh1)=>match zdL E s rvs os { sh1 with boxes:=zg sh1.boxes k none }with
      | some (xs,sh2)=>some ((x,xs),sh2)
      | none=>none
     | none=>none
    | none=>none)else none
   | _=>none
  | _=>none
 | _,_,_=>none
def zcz:(ps:List Par)→List V→Sh→Option (zak ps)
 | [],[],_=>some ()
 | .rd _::ps,_::vs,sh=>zcz ps vs sh
 | .kp _ _::ps,_::vs,sh=>zcz ps vs sh
 | .fn _ _::ps,_::vs,sh=>zcz ps vs sh
 | .rp _::ps,_::vs,sh=>zcz ps vs sh
 | .mt t a::ps,v::vs,sh=>match zy t.isSt v with
  | some cs=>match mvT sh t a cs with
   | some (x,sh1)=>match zcz ps vs sh1 with
    | some xs=>some (x,xs)
    | none=>none
   | none=>none
  | none=>none
 | .pt t a::ps,v::vs,sh=>match v with
  | .c (.ptr k _)=>match sh.boxes k with
   | some cs=>match mvT sh t a cs with
    | some (x,sh1)=>match zcz ps vs { sh1 with boxes:=zg sh1.boxes k none }with
     | some xs=>some (x,xs)
     | none=>none
    | none=>none
   | none=>none
  | _=>none
 | _,_,_=>none
def ziu (E:Env) (rvs:List ResultVar) (ps:List Par) (os:List OT) (vs:List V) (s:St):Option (zaY os×zak ps) :=
 match zdL E s rvs os s.sh with
 | some (r,sh)=>match zcz ps vs sh with
  | some m=>some (r,m)
  | none=>none
 | none=>none
def ziv (R:Fr) (rvs:List ResultVar) (body:Code) (ps:List Par) (os:List OT) (x:InD ps):Option (zaY os×zak ps) :=
 match zbc ps 0 x (zan R.nt)with
 | some (vs,s)=>bif zbf s ps vs then
   zaz R body 1 { s with tmps:=zdk vs 0 } (fun e s=>match e with
    | .normal=>ziu R.E rvs ps os vs s
    | .ret=>ziu R.E rvs ps os vs s
    | .exit _=>none)else none
 | none=>none
section
variable {P:Program} {E:Env} {n0:Nat} {M:Nat→Prop} {h0:Home} {s s':St} {g:Gh} {X:List Nat} {a:Act} {w:World} {o:Oper}
theorem zfY {sh:Sh} {h:za}: ∀{vs:List V} {args:List Value} {j:Nat},VRels sh g h vs args →
  (∀i v,j≤i→args[i-j]? =some v→VRel sh g h (zdk vs j i) v)∧ ∀i,((∃v∈vs,zdk vs j i=v)∨zdk vs j i= .junk)∧(args.length≤i-j→j≤i→zdk vs j i= .junk)
 | [],[],j,_=>⟨fun i v _ h=>by simp at h,fun i=>⟨.inr rfl,fun _ _=>rfl⟩⟩
 | x::vs,v::args,j,e=>by
  obtain⟨h1,h2⟩:=zfY (j:=j+1) e.2;refine⟨fun i u hij hu=> ?_,fun i=>⟨?_,fun hl hij=> ?_⟩⟩
  ·simp only[zdk]
   rw[zJ];by_cases hi:i=j
   ·subst hi
    rw[Nat.sub_self]at hu;simp at hu; subst hu;rw[if_pos rfl]; exact e.1
   ·rw[if_neg hi]
    refine h1 i u (by omega) ?_;have:i-j=(i-(j+1))+1:=by omega
    rw[this]at hu;simpa using hu
  ·simp only[zdk]
   rw[zJ];split
   ·exact .inl ⟨x,by simp,rfl⟩
   ·rcases(h2 i).1 with⟨v,hv,e⟩ | e
    ·exact .inl ⟨v,by simp[hv],e⟩
    ·exact .inr e
  ·simp only[zdk,List.length_cons]at hl ⊢
   rw[zt _ _ (by omega)];exact(h2 i).2 (by omega) (by omega)
def zdd (s:St) (g:Gh) (k:Nat):Option Value:=bif Nat.ble 1000000000 k&&s.used k then some (g.hd k)else none
def zdJ (s:St) (g:Gh) (k:Nat):Option Nat:=bif Nat.ble 1000000000 k&&s.used k then some (g.bx k)else none
theorem zh7 {s:St} {g:Gh} {k:Nat} (h:Nat.ble 1000000000 k=false∨s.used k=false):zdd s g k=none∧zdJ s g k=none:=by
 unfold zdd zdJ;rcases h with h | h<;>rw[h]<;>simp
theorem Rel.desig {h:za} {z:Nat→Prop} {io:Os×Array (Nat×ByteArray)} (r:Rel n0 M ⟨h,z,fun _=>none,fun _=>none,io⟩ s g X a w):Rel n0 M ⟨h,z,zdd s g,zdJ s g,io⟩ s g X a w where
 sz:=r.sz
 df:=r.df
 tm:=r.tm
 bx:=r.bx
 rg:=r.rg
 ub:=r.ub
 ur:=r.ur
 ut:=r.ut
 uc:=r.uc
 zs:=r.zs
 mine:=r.mine
 uniq:=r.uniq
 nd:=r.nd
 nx:=r.nx
 nn:=r.nn
 fr:=r.fr
 zn:=r.zn
 zl:=r.zl
 hh:=fun k e v he hv=>by
  change zdd s g k=some v at hv;unfold zdd at hv;cases hb:(Nat.ble 1000000000 k&&s.used k)with
  | true=>rw[hb]at hv; simpa using hv
  | false=>rw[hb]at hv; simp at hv
 hb:=fun k cs b hc hv=>by
  change zdJ s g k=some b at hv;unfold zdJ at hv;cases hb:(Nat.ble 1000000000 k&&s.used k)with
  | true=>rw[hb]at hv; simpa using hv
  | false=>rw[hb]at hv; simp at hv
 dz:=fun k hk=>zh7 (.inl (by
  cases h:Nat.ble 1000000000 k with
  | false=>rfl
  | true=>have:=Nat.le_of_ble_eq_true h; omega))
 hi:=fun k hk=>zh7 (.inr hk)
 io:=r.io
def ziX (h:za) (Z:Nat→Prop) (hdr:Nat→Option Value):C→Value→Prop
 | .at k,u=>zR u∧hdr k=some u
 | .int k n,u=>u= .int k n∧zaw k n
 | .bool b,u=>u= .bool b
 | .fz t l,u=>Rd h Z (.sl t) l [u]
 | _,_=>False
def zeP (h:za) (Z:Nat→Prop) (hdr:Nat→Option Value):List C→List Value→Prop
 | [],[]=>True
 | c::cs,u::us=>ziX h Z hdr c u∧zeP h Z hdr cs us
 | _,_=>False
def SOk (h:za) (Z:Nat→Prop) (hdr:Nat→Option Value) (blk:Nat→Option Nat):List Par→List V→List Value→Prop
 | [],[],[]=>True
 | .mt t _::ps,v::vs,u::us=>(∃cs ws,zy t.isSt v=some cs∧u=zaj t ws∧zeP h Z hdr cs ws)∧SOk h Z hdr blk ps vs us
 | .pt _ _::ps,v::vs,u::us=>(∃k b,v= .c (.ptr k 0)∧blk k=some b∧u= .pointer (some ⟨b,0,none⟩))∧SOk h Z hdr blk ps vs us
 | _::ps,_::vs,_::us=>SOk h Z hdr blk ps vs us
 | _,_,_=>False
theorem zfG (r:Rel n0 M h0 s g X a w): ∀{cs:List C} {us:List Value},cs.all (zho s)=true→CRels s.sh g (hp w) cs us→zeP (hp w) g.Z (zdd s g) cs us
 | [],[],_,_=>trivial
 | c::cs,u::us,h,e=>by
  simp only[List.all_cons,Bool.and_eq_true]at h;refine⟨?_,zfG r h.2 e.2⟩;have h1:=h.1;have e1:=e.1;cases c<;>simp only[zho]at h1
  case int k n=>exact e1
  case bool b=>exact e1
  case fz t l=>exact e1
  case «at» k =>
   simp only[Bool.and_eq_true]at h1;obtain⟨⟨h2,h3⟩,h4⟩:=h1;obtain⟨en,hen⟩:=Option.isSome_iff_exists.1 h2;refine⟨e1.1,?_⟩;unfold zdd;rw[h3,h4,e1.2 en hen]; rfl
  all_goals simp at h1
theorem zcX (r:Rel n0 M h0 s g X a w): ∀{ps:List Par} {vs:List V} {us:List Value},zbf s ps vs=true→VRels s.sh g (hp w) vs us→SOk (hp w) g.Z (zdd s g) (zdJ s g) ps vs us
 | [],[],[],_,_=>trivial
 | .mt t an::ps,v::vs,u::us,h,e=>by
  simp only[zbf,Bool.and_eq_true]at h;refine⟨?_,zcX r h.2 e.2⟩;have h1:=h.1;split at h1
  ·rename_i cs hc
   obtain⟨⟨ws,h2,h3⟩,_⟩:=zaM hc e.1;exact⟨cs,ws,hc,h2,zfG r h1 h3⟩
  ·simp at h1
 | .pt t an::ps,v::vs,u::us,h,e=>by
  simp only[zbf,Bool.and_eq_true]at h;refine⟨?_,zcX r h.2 e.2⟩;have h1:=h.1;split at h1
  ·rename_i k off
   simp only[Bool.and_eq_true]at h1;obtain⟨⟨⟨h2,h3⟩,h4⟩,h5⟩:=h1;have:=Nat.eq_of_beq_eq_true h2;subst this;obtain⟨cs,hcs⟩:=Option.isSome_iff_exists.1 h3;refine⟨k,g.bx k,rfl,?_,e.1.2 cs hcs⟩;unfold zdJ;rw[h4,h5]; rfl
  ·simp at h1
 | .rd _::ps,v::vs,u::us,h,e=>zcX (ps:=ps) r h e.2
 | .kp _ _::ps,v::vs,u::us,h,e=>zcX (ps:=ps) r h e.2
 | .fn _ _::ps,v::vs,u::us,h,e=>zcX (ps:=ps) r h e.2
 | .rp _::ps,v::vs,u::us,h,e=>zcX (ps:=ps) r h e.2
 | [],[],_::_,_,e=>e.elim
 | [],_::_,_,h,_=>by simp[zbf]at h
 | p::_,[],_,h,_=>by cases p<;>simp[zbf]at h
 | _::_,_::_,[],_,e=>e.elim
theorem zeZ {h:za} {Z:Nat→Prop} {hdr:Nat→Option Value} {blk:Nat→Option Nat} {io:Os×Array (Nat×ByteArray)} (r:Rel n0 M ⟨h,Z,hdr,blk,io⟩ s g X a w) (hz: ∀b,Z b→b<n0∧ ¬M b) :
  ∀{cs:List C} {us:List Value},zeP h Z hdr cs us→CRels s.sh g (hp w) cs us
 | [],[],_=>trivial
 | c::cs,u::us,e=>by
  refine⟨?_,zeZ r hz e.2⟩;have e1:=e.1;cases c<;>simp only[ziX]at e1
  case int k n=>exact e1
  case bool b=>exact e1
  case fz t l=>exact Rd.keep (fun b hb=>r.fr b (hz b hb).1 (hz b hb).2) (fun b hb=>r.zl b hb) e1
  case «at» k=>exact⟨e1.1,fun en hen=>(r.hh k en u hen e1.2).symm⟩
theorem zba {io:Os×Array (Nat×ByteArray)} {h:za} {Z:Nat→Prop} {hdr:Nat→Option Value} {blk:Nat→Option Nat} (hz: ∀b,Z b→b<n0∧ ¬M b): ∀{ps:List Par} {vs:List V} {args:List Value} {s:St} {g:Gh} {X:List Nat} {m:zak ps},
  zcz ps vs s.sh=some m→Rel n0 M ⟨h,Z,hdr,blk,io⟩ s g X a w→SOk h Z hdr blk ps vs args →
  ∃(Z':Nat→Prop) (ms:List (List Nat)) (X2:List Nat) (s2:St),(∀b,g.Z b→Z' b)∧zbY (hp w) Z' ps m args ms∧X2.Perm (ms.flatten++X)∧Rel n0 M ⟨h,Z,hdr,blk,io⟩ s2 { g with Z:=Z' } X2 a w
 | [],[],[],s,g,X,m,e,r,hs=>⟨g.Z,[],X,s,fun _ h=>h,trivial,.refl _,r⟩
 | .rd _::ps,_::vs,u::us,s,g,X,m,e,r,hs=>by
  obtain⟨Z',ms,X2,s2,h1,h2,h3,h4⟩:=zba (ps:=ps) (m:=m) hz e r hs;exact⟨Z',[]::ms,X2,s2,h1,⟨rfl,h2⟩,by simpa using h3,h4⟩
 | .kp _ _::ps,_::vs,u::us,s,g,X,m,e,r,hs=>by
  obtain⟨Z',ms,X2,s2,h1,h2,h3,h4⟩:=zba (ps:=ps) (m:=m) hz e r hs;exact⟨Z',[]::ms,X2,s2,h1,⟨rfl,h2⟩,by simpa using h3,h4⟩
 | .fn _ _::ps,_::vs,u::us,s,g,X,m,e,r,hs=>by
  obtain⟨Z',ms,X2,s2,h1,h2,h3,h4⟩:=zba (ps:=ps) (m:=m) hz e r hs;exact⟨Z',[]::ms,X2,s2,h1,⟨rfl,h2⟩,by simpa using h3,h4⟩
 | .rp _::ps,_::vs,u::us,s,g,X,m,e,r,hs=>by
  obtain⟨Z',ms,X2,s2,h1,h2,h3,h4⟩:=zba (ps:=ps) (m:=m) hz e r hs;exact⟨Z',[]::ms,X2,s2,h1,⟨rfl,h2⟩,by simpa using h3,h4⟩
 | .mt t an::ps,v::vs,u::us,s,g,X,m,e,r,hs=>by
  obtain⟨⟨cs,ws,hc,rfl,hst⟩,hs⟩:=hs;simp only[zcz,hc]at e;split at e
  ·rename_i x sh1 hm
   split at e
   ·rename_i xs hf
    simp at e; subst e;obtain⟨Z1,f,X1,hz1,r1,hp1,ho⟩:=zbr r hm (zeZ r hz hst);obtain⟨Z',ms,X2,s2,h1,h2,h3,h4⟩:=zba (ps:=ps) (m:=xs) (s:={ s with sh:=sh1 }) hz hf r1 hs;refine⟨Z',f::ms,X2,s2,fun b h=>h1 b (hz1 b h),⟨⟨ws,rfl,Own.keep (fun _ _=>rfl) h1 (fun _ _=>rfl) ho⟩,h2⟩,?_,h4⟩;rw[List.perm_iff_count]at h3 hp1 ⊢;intro z;have a1:=h3 z;have a2:=hp1 z;simp only[List.flatten_cons,List.count_append]at a1 a2 ⊢;omega
   ·simp at e
  ·simp at e
 | .pt t an::ps,v::vs,u::us,s,g,X,m,e,r,hs=>by
  obtain⟨⟨k,b,rfl,hblk,rfl⟩,hs⟩:=hs;simp only[zcz]at e;split at e
  ·rename_i cs hcs
   split at e
   ·rename_i x sh1 hm
    split at e
    ·rename_i xs hf
     simp at e; subst e;have hb:g.bx k=b:=r.hb k cs b hcs hblk;obtain⟨c,T,hB,hcr⟩:=r.bx k cs hcs;rw[hb]at hB;obtain⟨Z1,f,X1,hz1,r1,hp1,ho⟩:=zbr r hm hcr;have hcs1:sh1.boxes k=some cs:=by rw[(zbe hm).1]; exact hcs
     have r2:=r1.dropBox (k:=k) hcs1;obtain⟨Z',ms,X2,s2,h1,h2,h3,h4⟩:=zba (ps:=ps) (m:=xs) (s:={ s with sh:={ sh1 with boxes:=zg sh1.boxes k none } }) hz hf r2 hs;refine⟨Z',(b::f)::ms,X2,s2,fun b h=>h1 b (hz1 b h),⟨⟨b,c,T,f,rfl,hB,Own.keep (fun _ _=>rfl) h1 (fun _ _=>rfl) ho,rfl⟩,h2⟩,?_,h4⟩;have hb':({ g with Z:=Z1 }:Gh).bx k=b:=hb;rw[hb']at h3;rw[List.perm_iff_count]at h3 hp1 ⊢;intro z;have a1:=h3 z;have a2:=hp1 z;simp only[List.flatten_cons,List.count_append,List.count_cons]at a1 a2 ⊢;omega
    ·simp at e
   ·simp at e
  ·simp at e
 | [],[],_::_,_,_,_,_,_,_,hs=>hs.elim
 | [],_::_,_,_,_,_,_,e,_,_=>by simp[zcz]at e
 | p::_,[],_,_,_,_,_,e,_,_=>by cases p<;>simp[zcz]at e
 | p::_,_::_,[],_,_,_,_,_,_,hs=>by cases p<;>cases hs
def zcb (tmps:Array Value):ResultVar→Sem Value
 | .tmp t=>pure (tmps.getD t undef)
 | .cell a t=>do loadVar t (← asAddr (tmps.getD a undef))
theorem zgf (r:Rel n0 M h0 s g X a w) (hE:EnvOk P E) {t:Ty} {rv:ResultVar} {cs:List C} (e:zfv E s t rv=some cs) :
  ∃vs,(zcb a.tmps rv).run P w= .ok (zaj t vs) w∧CRels s.sh g (hp w) cs vs:=by
 cases rv with
 | tmp i =>
  obtain⟨⟨vs,h1,h2⟩,_⟩:=zaM e (zf r (.tmp i)).1;refine⟨vs,?_,h2⟩;have:a.tmps.getD i undef=zaj t vs:=h1;simp only[zcb,Sem.run_pure];rw[this]
 | cell i tid =>
  simp only[zfv]at e;split at e
  ·rename_i ti hti
   split at e
   ·rename_i c hc
    split at e
    ·rename_i cs' hl
     cases hb:(Nat.beq cs'.length ti.ty.size&&(bif ti.ty.isSt then t.isSt else !t.isSt))with
     | true =>
      rw[hb]at e; simp at e; subst e;simp only[Bool.and_eq_true]at hb;obtain⟨hv,hu⟩:=zf r (.tmp i);rw[hc]at hv hu;have hok:=hE.ti tid ti hti;obtain⟨b,off,vs,hval,hcs,hcr,_⟩:=ze9 r hl (Nat.eq_of_beq_eq_true hb.1) hok.pos hv hu;refine⟨vs,?_,hcr⟩;have h2:a.tmps.getD i undef= .pointer (some ⟨b,off,none⟩):=hval
      have hag:ti.ty.isSt=t.isSt:=by
       have:=hb.2;cases h3:ti.ty.isSt<;>rw[h3]at this<;>simp at this<;>exact this.symm
      have:=zfg (P:=P) hok hcs;simp only[zcb,h2];unfold zaj;rw[← hag];simpa [asAddr]using this
     | false=>rw[hb]at e; simp at e
    ·simp at e
   ·simp at e
  ·simp at e
theorem zdM (hE:EnvOk P E) (r0:Rel n0 M h0 s g X a w): ∀{rvs:List ResultVar} {os:List OT} {sh sh2:Sh} {Z1:Nat→Prop} {X':List Nat} {xs:zaY os},zdL E s rvs os sh=some (xs,sh2) →
  Rel n0 M h0 { s with sh } { g with Z:=Z1 } X' a w→(∀cs vs,CRels s.sh g (hp w) cs vs→CRels sh { g with Z:=Z1 } (hp w) cs vs) →
  ∃(vs:List Value) (Z':Nat→Prop) (fs:List (List Nat)) (X2:List Nat),(rvs.mapM (zcb a.tmps)).run P w= .ok vs w∧(∀b,Z1 b→Z' b)∧zdD (hp w) Z' os xs vs fs ∧
   X2.Perm (fs.flatten++X')∧Rel n0 M h0 { s with sh:=sh2 } { g with Z:=Z' } X2 a w
 | [],[],sh,sh2,Z1,X',xs,e,r,hk=>by
  simp[zdL]at e; obtain⟨rfl,rfl⟩:=e;exact⟨[],Z1,[],X',by simp,fun _ h=>h,trivial,.refl _,r⟩
 | rv::rvs,⟨false,t,an⟩::os,sh,sh2,Zq,X',xs,e,r,hk=>by
  simp only[zdL]at e;split at e
  ·rename_i cs hc
   split at e
   ·rename_i x sh1 hm
    split at e
    ·rename_i ys sh3 hf
     simp at e; obtain⟨rfl,rfl⟩:=e;obtain⟨us,hrun,hcr⟩:=zgf r0 hE hc;obtain⟨Z1,f,X1,hz1,r1,hp1,ho⟩:=zbr r hm (hk _ _ hcr);obtain⟨sb,sr⟩:=zbe hm;obtain⟨vs,Z',fs,X2,hruns,hz2,hres,hp2,r2⟩:=zdM hE r0 hf r1 (fun cs vs h=>CRels.over (zbK (g:={ g with Z:=Zq }) hz1) r.rg (fun c _ k _=>zaB sb sr k) (hk cs vs h));refine⟨zaj t us::vs,Z',f::fs,X2,?_,fun b h=>hz2 b (hz1 b h),⟨⟨us,rfl,Own.keep (fun _ _=>rfl) hz2 (fun _ _=>rfl) ho⟩,hres⟩,?_,r2⟩
     ·simp only[List.mapM_cons,Sem.run_bind,hrun,Result.andThen_ok,hruns,Sem.run_pure]
     ·refine hp2.trans ((List.Perm.append_left _ hp1).trans ?_)
      simp only[List.flatten_cons,List.append_assoc];rw[← List.append_assoc,← List.append_assoc];exact List.Perm.append_right _ List.perm_append_comm
    ·simp at e
   ·simp at e
  ·simp at e
 | rv::rvs,⟨true,t,an⟩::os,sh,sh2,Zq,X',xs,e,r,hk=>by
  simp only[zdL]at e;split at e
  ·rename_i i
   split at e
   ·rename_i k off hev
    cases hoff:Nat.beq off 0 with
    | false=>rw[hoff]at e; simp at e
    | true =>
     have:=Nat.eq_of_beq_eq_true hoff;subst this;rw[hoff]at e; simp only[cond_true]at e;split at e
     ·rename_i cs hcs
      split at e
      ·rename_i x sh1 hm
       split at e
       ·rename_i ys sh3 hf
        simp at e; obtain⟨rfl,rfl⟩:=e;have hv:=(zf r0 (.tmp i)).1;rw[hev]at hv;have hv2:=(hk [.ptr k 0] [_] ⟨hv,trivial⟩).1.2 cs hcs;obtain⟨c,T,hB,hcr⟩:=r.bx k cs hcs;obtain⟨Z1,f,X1,hz1,r1,hp1,ho⟩:=zbr r hm hcr;obtain⟨sb,sr⟩:=zbe hm;have hcs1:sh1.boxes k=some cs:=by rw[sb]; exact hcs
        have r2:=r1.dropBox (k:=k) hcs1;obtain⟨vs,Z',fs,X2,hruns,hz2,hres,hp2,r3⟩:=zdM hE r0 hf r2 (fun cs vs h=>zgZ r1.rg (CRels.over (zbK (g:={ g with Z:=Zq }) hz1) r.rg (fun c _ k _=>zaB sb sr k) (hk cs vs h)));refine⟨.pointer (some ⟨g.bx k,0,none⟩)::vs,Z',(g.bx k::f)::fs,X2,?_,fun b h=>hz2 b (hz1 b h),⟨⟨g.bx k,c,T,f,rfl,hB,Own.keep (fun _ _=>rfl) hz2 (fun _ _=>rfl) ho,rfl⟩,hres⟩,?_,r3⟩
        ·have hrun:(zcb a.tmps (.tmp i)).run P w= .ok (.pointer (some ⟨g.bx k,0,none⟩)) w:=by
          have:a.tmps.getD i undef= .pointer (some ⟨g.bx k,0,none⟩):=hv2;simp only[zcb,Sem.run_pure];rw[this]
         simp only[List.mapM_cons,Sem.run_bind,hrun,Result.andThen_ok,hruns,Sem.run_pure]
        ·rw[List.perm_iff_count]at hp1 hp2 ⊢
         intro z;have a1:=hp1 z;have a2:=hp2 z;simp only[List.flatten_cons,List.count_append,List.count_cons]at a1 a2 ⊢;omega
       ·simp at e
      ·simp at e
     ·simp at e
   ·simp at e
  ·simp at e
 | [],_::_,_,_,_,_,_,e,_,_=>by simp[zdL]at e
 | _::_,[],_,_,_,_,_,e,_,_=>by simp[zdL]at e
theorem zhZ {fn:Func} {tmps:Array Value} {vs:List Value} (h:(fn.results.toList.mapM (zcb tmps)).run P w= .ok vs w):(results fn tmps).run P w= .ok (zeH vs) w:=by
 have h1:(fn.results.mapM (zcb tmps)).run P w= .ok vs.toArray w:=by
  rw[Array.mapM_eq_mapM_toList,Sem.run_map,h];rfl
 have h2:results fn tmps=(do
   let vs ←fn.results.mapM (zcb tmps)
   pure (if h:vs.size=1 then vs[0]else .tuple vs)):=by
  unfold results;congr 1
 rw[h2];simp only[Sem.run_bind,h1,Result.andThen_ok,Sem.run_pure];congr 1
 match vs with
 | []=>rfl
 | [v]=>rfl
 | _::_::_=>simp[zeH]
theorem za6 {h:za} {Z R:Nat→Prop}: ∀{ps:List Par} {x:InD ps} {args:List Value} {fs:List (List Nat)},ArgsOk h Z R ps x args fs→args.length=ps.length
 | [],_,[],[],_=>rfl
 | .rd t::ps,x,v::args,f::fs,h=>by simp[za6 (ps:=ps) h.2.2]
 | .fn _ t::ps,x,v::args,f::fs,h=>by simp[za6 (ps:=ps) h.2.2]
 | .rp t::ps,x,v::args,f::fs,h=>by simp[za6 (ps:=ps) h.2.2]
 | .kp t _::ps,x,v::args,f::fs,h=>by simp[za6 (ps:=ps) h.2]
 | .mt t _::ps,x,v::args,f::fs,h=>by simp[za6 (ps:=ps) h.2]
 | .pt t _::ps,x,v::args,f::fs,h=>by simp[za6 (ps:=ps) h.2]
 | p::_,_,[],_,h=>by cases p<;>cases h
 | p::_,_,_::_,[],h=>by cases p<;>cases h
 | [],_,[],_::_,h=>by cases h
 | [],_,_::_,_,h=>by cases h
theorem zit {nt:Nat} {Z R:Nat→Prop} {F:List Nat} (hz: ∀b,Z b∨R b→b<w.heap.size) (hn:F.Nodup) (hF: ∀b∈F,b<w.heap.size∧ ¬Z b∧ ¬R b) :
  Rel w.heap.size (fun b=>b∈F) ⟨hp w,Z,fun _=>none,fun _=>none,zby w⟩ (zan nt) ⟨Z,R,fun _=>0,fun _=>undef,fun _=> []⟩ F { tmps:=Array.replicate nt undef,defers:= [] } w where
 sz:=by simp[zan]
 df:=rfl
 tm:=fun _ _ _=>trivial
 bx:=fun k cs h=>by simp[zan]at h
 rg:=fun k e h=>by simp[zan]at h
 ub:=fun k cs h=>by simp[zan]at h
 ur:=fun k e h=>by simp[zan]at h
 ut:=fun i k hk=>by simp[zan,V.refs]at hk
 uc:=fun k cs h=>by simp[zan]at h
 zs:=hz
 mine:=fun o b hh=>by
  cases o with
  | box k=>obtain⟨⟨cs,h⟩,_⟩:=hh; simp[zan]at h
  | reg k=>obtain⟨⟨cs,h⟩,_⟩:=hh; simp[zan]at h
  | ext=>exact⟨(hF b hh).2.1,(hF b hh).2.2,.inr hh,(hF b hh).1⟩
 uniq:=fun o o' b h1 h2=>by
  cases o with
  | box k=>obtain⟨⟨cs,h⟩,_⟩:=h1; simp[zan]at h
  | reg k=>obtain⟨⟨cs,h⟩,_⟩:=h1; simp[zan]at h
  | ext =>
   cases o' with
   | box k=>obtain⟨⟨cs,h⟩,_⟩:=h2; simp[zan]at h
   | reg k=>obtain⟨⟨cs,h⟩,_⟩:=h2; simp[zan]at h
   | ext=>rfl
 nd:=fun k e h=>by simp[zan]at h
 nx:=hn
 nn:=Nat.le_refl _
 fr:=fun _ _ _=>rfl
 zn:=fun _ h=> .inl h
 zl:=fun _ h=>h
 hh:=fun k e v h=>by simp[zan]at h
 hb:=fun k cs b h=>by simp[zan]at h
 dz:=fun _ _=>⟨rfl,rfl⟩
 hi:=fun _ _=>⟨rfl,rfl⟩
 io:=rfl
theorem zip {P:Program} {R:Fr} {f:FuncId} {fn:Func} {body:Code} {con:Con} (hR:FrOk P R body) (hf:P.funcs[f]? =some fn) (hname:(fn.name== "runtime.NumGoroutine")=false)
    (hb:fn.body=some body) (hnt:R.nt=fn.ntmps) (hn:con.ins.length≤fn.ntmps)
    (h: ∀xs r,con.F xs=some r→ziv R fn.results.toList body con.ins con.outs xs=some r):ConOk P f con where
  fn:=⟨fn,hf,hname,by simp[hb]⟩
  run:=by
    intro w Z Rd' xs args fs r ha hF hz hnd hfr;have e:=h xs r hF;unfold ziv at e;rw[hnt]at e;split at e
    · rename_i vs s1 hinit
      cases hst:zbf s1 con.ins vs with
      | false=>rw[hst]at e; simp at e
      | true =>
        rw[hst]at e; simp only[cond_true]at e;have r0:=zit (nt:=fn.ntmps) hz hnd hfr;obtain⟨g1,hz1,r1,hv1,hu1,k1⟩:=zaV (X':= []) r0 hinit ha (by simp);have hlen:=za6 ha;obtain⟨t1,t2⟩:=zfY (j:=0) hv1;have hsok:=zcX r1 hst hv1;rw[hz1]at hsok
        have hnt1:s1.nt=fn.ntmps:=by
          have:=r1.sz; simp at this; exact this.symm
        have r2:Rel w.heap.size (fun b=>b∈fs.flatten) ⟨hp w,Z,zdd s1 g1,zdJ s1 g1,zby w⟩ { s1 with tmps:=zdk vs 0 } g1 [] { tmps:=args.toArray++Array.replicate (fn.ntmps-args.toArray.size) undef,defers:= [] } w:=by
          refine r1.desig.setTmps (by simp[hnt1]; omega) rfl (fun i v hv=> ?_) (fun i k hk=> ?_)
          · by_cases hi:i<args.length
            · refine t1 i v (Nat.zero_le _) ?_
              rw[Array.getElem?_append_left (by simpa using hi)]at hv;simpa using hv
            · rw[(t2 i).2 (by omega) (Nat.zero_le _)]; trivial
          · rcases(t2 i).1 with⟨v,hv,e⟩ | e
            · rw[e]at hk; exact hu1 v hv k hk
            · rw[e]at hk; simp[V.refs]at hk
        refine calls_of_wp hf hb (zaC hR body 1 _ _ _ _ _ _ _ (At'.root _) e r2 ?_)
        have fin: ∀s' g' X' a' w',ziu R.E fn.results.toList con.ins con.outs vs s'=some r→Rel w.heap.size (fun b=>b∈fs.flatten) ⟨hp w,Z,zdd s1 g1,zdJ s1 g1,zby w⟩ s' g' X' a' w' →
            a'.defers= []∧ ∃v,(results fn a'.tmps).run P w'= .ok v w'∧DoneOk con args fs Z w r (.returned v) w':=by
          intro s' g' X' a' w' e' r';unfold ziu at e';split at e'
          · rename_i rr sh hfin
            split at e'
            · rename_i m hm
              simp at e'; subst e';obtain⟨vals,Z2,ds,X2,hruns,hz2,hres,hp2,r3⟩:=zdM (P:=P) hR.env r' (Z1:=g'.Z) hfin r' (fun _ _ h=>h);obtain⟨Z3,ms,X3,s3,hz3,hmut,hp3,r4⟩:=zba (s:={ s' with sh:=sh }) (fun b hb=>⟨hz b (.inl hb),fun hbf=>(hfr b hbf).2.1 hb⟩) hm r3 hsok
              have hin: ∀b∈ds.flatten++ms.flatten,b∈X3:=fun b hb=>hp3.mem_iff.2 (by
                rcases List.mem_append.1 hb with hb | hb
                · exact List.mem_append.2 (.inr (hp2.mem_iff.2 (List.mem_append.2 (.inl hb))))
                · exact List.mem_append.2 (.inl hb))
              have hX3:(ds.flatten++ms.flatten++X').Nodup:=by
                refine List.Perm.nodup ?_ r4.nx;rw[List.perm_iff_count]at hp2 hp3 ⊢;intro z;have a1:=hp2 z;have a2:=hp3 z;simp only[List.count_append]at a1 a2 ⊢;omega
              refine⟨r'.df,zeH vals,zhZ hruns,vals,Z3,ds,ms,rfl,r'.io,r'.nn,fun b hb hbf=>r'.fr b hb hbf,fun b hb=>r4.zl b hb,fun b hb=> ?_,?_,hmut,(List.nodup_append.1 hX3).1,?_⟩
              · rcases r4.zn b hb with h | h | h
                · exact .inl h
                · exact .inr (.inl ⟨h,r4.zs b (.inl hb)⟩)
                · exact .inr (.inr h)
              · have keepRes: ∀{os:List OT} {x:zaY os} {vs:List Value} {fs:List (List Nat)},zdD (hp w') Z2 os x vs fs→zdD (hp w') Z3 os x vs fs:=by
                  intro os
                  induction os with
                  | nil =>
                    intro x vs fs h
                    match vs,fs,h with
                    | [],[],_=>exact trivial
                  | cons p os ih =>
                    intro x vs fs h
                    match vs,fs,h with
                    | v::vs,f::fs,h =>
                      refine⟨?_,ih h.2⟩;obtain⟨pt,t,an⟩:=p;cases pt with
                      | false =>
                        obtain⟨cs,h1,h2⟩:=h.1;exact⟨cs,h1,Own.keep (fun _ _=>rfl) hz3 (fun _ _=>rfl) h2⟩
                      | true =>
                        obtain⟨b,c,T,f',h1,h2,h3,h4⟩:=h.1;exact⟨b,c,T,f',h1,h2,Own.keep (fun _ _=>rfl) hz3 (fun _ _=>rfl) h3,h4⟩
                exact keepRes hres
              · intro b hb
                have m:=r4.mine .ext b (hin b hb);refine⟨?_,m.z⟩;rcases m.m with h | h
                · exact .inl ⟨h,m.s⟩
                · exact .inr h
            · simp at e'
          · simp at e'
        intro ex s' g' X' a' w' e' r';cases ex with
        | normal=>exact fin s' g' X' a' w' e' r'
        | ret=>exact fin s' g' X' a' w' e' r'
        | exit id=>simp at e'
    · simp at e
end
def zfn {α:Type}:List (Nat×α)→Nat→Option α
 | [],_=>none
 | p::l,k=>bif Nat.beq k p.1 then some p.2 else zfn l k
theorem zfo {α:Type}: ∀{l:List (Nat×α)} {k:Nat} {x:α},zfn l k=some x→(k,x)∈l
 | [],_,_,h=>by simp[zfn]at h
 | p::l,k,x,h=>by
  simp only[zfn]at h;cases hb:Nat.beq k p.1 with
  | true =>
   rw[hb]at h; simp at h; subst h;have:=Nat.eq_of_beq_eq_true hb; subst this;exact List.mem_cons_self
  | false=>rw[hb]at h; exact List.mem_cons_of_mem _ (zfo h)
def AllT (P:Program):List (Nat×TI)→Prop
 | []=>True
 | p::l=>TIok P p.1 p.2∧AllT P l
def AllC (P:Program):List (Nat×Con)→Prop
 | []=>True
 | p::l=>ConOk P p.1 p.2∧AllC P l
theorem AllT.get {P:Program}: ∀{l:List (Nat×TI)},AllT P l→ ∀p∈l,TIok P p.1 p.2
 | q::l,h,p,hp=>by
  rcases List.mem_cons.1 hp with rfl | hp
  ·exact h.1
  ·exact AllT.get h.2 p hp
theorem AllC.get {P:Program}: ∀{l:List (Nat×Con)},AllC P l→ ∀p∈l,ConOk P p.1 p.2
 | q::l,h,p,hp=>by
  rcases List.mem_cons.1 hp with rfl | hp
  ·exact h.1
  ·exact AllC.get h.2 p hp
def zkw (T:List (Nat×TI)) (C:List (Nat×Con)) (A:List (Nat×Ann)):Env:=⟨zfn T,zfn C,zfn A⟩
theorem zkA {P:Program} {T:List (Nat×TI)} {C:List (Nat×Con)} {A:List (Nat×Ann)} {nt:Nat} {root:Code} (hm:P.follows .mixedOrders=true) (ht:AllT P T) (hc:AllC P C) :
  FrOk P ⟨zkw T C A,nt,fun _=>none⟩ root where
 mixed:=hm
 env:=⟨fun t i h=>ht.get _ (zfo h)⟩
 g:=⟨fun f c h=>hc.get _ (zfo h)⟩
 seg:=fun _ _ _ _ h=>by simp at h
theorem FrOk.loop {P:Program} {E:Env} {nt:Nat} {D:Nat→Option Seg} {root:Code} (hR:FrOk P ⟨E,nt,D⟩ root) {id:Nat} {c:Code} {p:Nat} {sg:Seg} (L:Shape) (emb:sg.inn.X→L.X) (h1:1≤p) (ha:zd7 root 64 p=some (.block id (.loop c))) (step:L.X→Option (L.X ⊕ (sg.out.X ⊕ sg.ret.X))) (fuel:sg.inn.X→Nat) (hf:sg.inn.fine nt=true) (he: ∀x,sg.inn.enc nt x=L.enc nt (emb x)) (hF: ∀x r,sg.inn.Ok x→sg.F x=some r→zF step (fuel x) (emb x)=some r) (h: ∀x,zhu ⟨E,nt,D⟩ id c (2*(2*p)) L sg.out sg.ret x=step x):FrOk P ⟨E,nt,fun q=>bif Nat.beq q p then some sg else D q⟩ root :=hR.add ⟨h1,64,ha⟩ (zjR hR L emb ⟨h1,64,ha⟩ step fuel hf he hF (fun x r e=>(h x).trans e))
theorem FrOk.part {P:Program} {E:Env} {nt:Nat} {D:Nat→Option Seg} {root:Code} (hR:FrOk P ⟨E,nt,D⟩ root) {c:Code} {p:Nat} {sg:Seg} (h1:1≤p) (ha:zd7 root 64 p=some c) (h: ∀x,ziM ⟨E,nt,D⟩ c p sg.inn sg.out sg.ret x=sg.F x):FrOk P ⟨E,nt,fun q=>bif Nat.beq q p then some sg else D q⟩ root :=hR.add ⟨h1,64,ha⟩ (zjS hR ⟨h1,64,ha⟩ (fun x r e=>(h x).trans e))
def nth {α:Type} (l:List α) (i:Int) (d:α):α:=l.getD i.toNat d
def ltb (a b:Int):Bool:=decide (a<b)
def leb (a b:Int):Bool:=decide (a≤b)
def inb (i:Int) (n:Nat):Bool:=decide (0≤i)&&decide (i<(n:Int))
def zkl (m n b:Nat):Bool:=decide ((m+n)*b≤140737488355328)
def zks (n:Int) (b:Nat):Bool:=decide (0≤n)&&decide (n*b≤140737488355328)
def zj0 (lo hi:Int) (n:Nat):Bool:=decide (0≤lo)&&decide (lo≤hi)&&decide (hi≤(n:Int))
def bnd {α β:Type} (x:Option α) (f:α→Option β):Option β:=match x with | some a=>f a | none=>none
def zkt {α β γ:Type} (x:Option (α ⊕ β)) (f:α→Option γ) (g:β→Option γ):Option γ :=
 match x with
 | some (.inl y)=>f y
 | some (.inr z)=>g z
 | none=>none
theorem zkH {α β:Type} (a:α) (f:α→Option β):bnd (some a) f=f a:=rfl
theorem zkN {α β γ:Type} (y:α) (f:α→Option γ) (g:β→Option γ):zkt (some (.inl y)) f g=f y:=rfl
theorem zkO {α β γ:Type} (z:β) (f:α→Option γ) (g:β→Option γ):zkt (some (.inr z)) f g=g z:=rfl
def zjx:(ps:List Par)→InD ps→Prop
 | [],_=>True
 | p::ps,x=>p.ty.Ok x.1∧zjx ps x.2
theorem ArgsOk.ok {h:za} {Z R:Nat→Prop}: ∀{ps:List Par} {x:InD ps} {args:List Value} {fs:List (List Nat)},ArgsOk h Z R ps x args fs→zjx ps x
 | [],_,[],[],_=>trivial
 | .rd t::ps,x,v::vs,f::fs,e=>⟨by obtain⟨⟨cs,_,h⟩,_⟩:=e; exact Rd.ok h,ArgsOk.ok e.2.2⟩
 | .fn _ t::ps,x,v::vs,f::fs,e=>⟨by obtain⟨⟨b,o,cs,_,_,_,h⟩,_⟩:=e; exact Rd.ok h,ArgsOk.ok e.2.2⟩
 | .rp t::ps,x,v::vs,f::fs,e=>⟨by obtain⟨⟨b,o,cs,_,_,_,h⟩,_⟩:=e; exact Rd.ok h,ArgsOk.ok e.2.2⟩
 | .kp t a::ps,x,v::vs,f::fs,e=>⟨by obtain⟨⟨cs,_,h⟩,_⟩:=e; exact Rd.ok (Own.rd (Z':=fun _=>True) (fun _ _=>trivial) (fun _ _=>trivial) h),ArgsOk.ok e.2⟩
 | .mt t a::ps,x,v::vs,f::fs,e=>⟨by obtain⟨⟨cs,_,h⟩,_⟩:=e; exact Rd.ok (Own.rd (Z':=fun _=>True) (fun _ _=>trivial) (fun _ _=>trivial) h),ArgsOk.ok e.2⟩
 | .pt t a::ps,x,v::vs,f::fs,e=>⟨by obtain⟨⟨b,c,T,f',_,_,h,_⟩,_⟩:=e; exact Rd.ok (Own.rd (Z':=fun _=>True) (fun _ _=>trivial) (fun _ _=>trivial) h),ArgsOk.ok e.2⟩
 | p::_,_,[],_,e=>by cases p<;>cases e
 | p::_,_,_::_,[],e=>by cases p<;>cases e
 | [],_,_::_,_,e=>by cases e
 | [],_,[],_::_,e=>by cases e
theorem ConOk.mono {P:Program} {f:FuncId} {ins:List Par} {outs:List OT} {F G:InD ins→Option (zaY outs×zak ins)} (h:ConOk P f ⟨ins,outs,F⟩) (hg: ∀x r,zjx ins x→G x=some r→F x=some r):ConOk P f ⟨ins,outs,G⟩ where
 fn:=h.fn
 run:=fun w Z R xs args fs r ha hG hz hn hfr=>h.run w Z R xs args fs r ha (hg xs r ha.ok hG) hz hn hfr
end Go.Tf
