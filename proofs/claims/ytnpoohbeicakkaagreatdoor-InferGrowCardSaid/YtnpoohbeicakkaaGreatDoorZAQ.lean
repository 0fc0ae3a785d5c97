/- What functions come to: the fault of a node, by the program. Conditions: none. -/
import Derived.Test.YtnpoohbeicakkaaGreatDoorZAP
set_option linter.unusedVariables false
set_option linter.unusedSimpArgs false
set_option linter.unnecessarySimpa false
set_option maxRecDepth 100000
namespace Zv
open Go
noncomputable section
theorem B119_eq:B119=(.seq (.reg none [⟨(some 1),(.new 57 (.t 0)),none⟩,⟨(some 2),(.mv (.c (.int .i64 0))),none⟩]) (.seq V1 (.seq (.reg none [⟨(some 3),(.mv (.c (.int .i64 0))),none⟩]) (.seq V2 (.seq (.reg none [⟨(some 29),(.ld (some 7) (.t 1)),none⟩,⟨(some 30),(.call 123 [(.t 29)]),none⟩,⟨(some 28),(.mv (.t 30)),none⟩,⟨(some 31),(.ext 0 (.t 28)),none⟩,⟨(some 32),(.ext 1 (.t 28)),none⟩,⟨(some 6),(.new 57 (.c (.agg [(.int .i64 0),(.int .i64 0),(.int .i64 0),(.str []),(.str []),(.int .i64 0),(.int .i64 0)]))),none⟩,⟨none,(.st 7 (.t 6) (.t 31)),none⟩,⟨(some 7),(.mv (.t 32)),none⟩]) (.seq (.block 0 V3) (.seq (.reg none [⟨(some 2),(.mv (.c (.int .i64 0))),none⟩]) .ret))))))):=rfl
def StF(x:Nd)(st:St)(t:Tm)(ar:Int):Prop:=sget st 0=some (.fix 57 (bU x))∧sget st 1=some (.fix 57 (bU (gG x)))∧tget t 1 = .ptr 0 0∧tget t 6 = .ptr 1 0∧tget t 3 = .int .i64 ar
def StepF(V V':AC)(n:Nat)(x:Nd)(b:Bool)(e ar:Int):Prop:=∀{t:Tm} {st:St} {c:Nat},StF x st t ar →
 (b=true→∃t',zC V (cxn (n+9)) (fn (n+9) 4096) KK ⟨t,st,c,[],none⟩ = .ok .ret ⟨t',st,c,[],none⟩∧tget t' 2 = .int .i64 e) ∧
 (b=false→∃t',zC V (cxn (n+9)) (fn (n+9) 4096) KK ⟨t,st,c,[],none⟩=zC V' (cxn (n+9)) (fn (n+9) 4096) KK ⟨t',st,c,[],none⟩∧StF x st t' ar)
def zeroB(y:Nd):Bool:=(y.kind==0)&&((y.prim==0)&&((y.kids==0)&&((y.name==[])&&((y.text==[])&&((y.n==0)&&(y.site==0))))))
theorem zero_cmp(y:Nd):pN (.ty (.parts [(0,none,.int),(1,none,.int),(2,none,.int),(3,none,.str),(4,none,.str),(5,none,.int),(6,none,.int)])) (.agg [.int .i64 y.kind,.int .i64 y.prim,.int .i64 y.kids,.str y.name,.str y.text,.int .i64 y.n,.int .i64 y.site]) (.agg [.int .i64 0,.int .i64 0,.int .i64 0,.str [],.str [],.int .i64 0,.int .i64 0])=some (zeroB y):=by
 have h:∀a b c d e f g:Bool,(bif a then bif b then bif c then bif d then bif e then bif f then bif g then some true else some false else some false else some false else some false else some false else some false else some false)=some (a&&(b&&(c&&(d&&(e&&(f&&g)))))):=by decide
 exact h (y.kind==0) (y.prim==0) (y.kids==0) (y.name==[]) (y.text==[]) (y.n==0) (y.site==0)
theorem V3_ok(n:Nat)(x:Nd){ar:Int}:StepF V3 V4 n x (!zeroB (gG x)) 2 ar:=fun {t st c} h=>by
 obtain⟨s0,s1,q1,q6,q3⟩:=h;have s00:=s0;have s11:=s1;unfold bU at s0 s1
 have htk:dE [.int .i64 (gG x).kind,.int .i64 (gG x).prim,.int .i64 (gG x).kids,.str (gG x).name,.str (gG x).text,.int .i64 (gG x).n,.int .i64 (gG x).site] 0 (some 7)=some (.agg [.int .i64 (gG x).kind,.int .i64 (gG x).prim,.int .i64 (gG x).kids,.str (gG x).name,.str (gG x).text,.int .i64 (gG x).n,.int .i64 (gG x).site]):=rfl;have hz:=zero_cmp (gG x)
 simp only[V3,Ab.abq];cases h1:zeroB (gG x)
 ·simp only[z2,seval,s0,s1,q1,q6,q3,Int.reduceEq,Int.reduceLT,Int.reduceLE,gW,bS,bV,aV,bM,dH,cG,bR,h1,htk,hz,bJ];exact⟨fun _=>⟨_,rfl,by simp[aE]⟩,nofun⟩
 ·simp only[z2,seval,s0,s1,q1,q6,q3,Int.reduceEq,Int.reduceLT,Int.reduceLE,gW,bS,bV,aV,bM,dH,cG,bR,h1,htk,hz,bJ];exact⟨nofun,fun _=>⟨_,rfl,s00,s11,by simp[aE,q1],by simp[aE,q6],by simp[aE,q3]⟩⟩
theorem V4_ok(n:Nat)(x:Nd){ar:Int}:StepF V4 V5 n x (decide (x.site<0)||decide (1000000000<x.site)) 7 ar:=fun {t st c} h=>by
 obtain⟨s0,s1,q1,q6,q3⟩:=h;have s00:=s0;have s11:=s1;unfold bU at s0 s1;simp only[V4,Ab.abq];cases h1:decide (x.site<0)
 ·cases h2:decide (1000000000<x.site)
  ·simp only[z0,seval,s0,s1,q1,q6,q3,Int.reduceEq,Int.reduceLT,Int.reduceLE,gW,bS,bV,aV,bM,dH,cG,bR,h1,h2];exact⟨nofun,fun _=>⟨_,rfl,s00,s11,by simp[aE,q1],by simp[aE,q6],by simp[aE,q3]⟩⟩
  ·simp only[z0,seval,s0,s1,q1,q6,q3,Int.reduceEq,Int.reduceLT,Int.reduceLE,gW,bS,bV,aV,bM,dH,cG,bR,h1,h2];exact⟨fun _=>⟨_,rfl,by simp[aE]⟩,nofun⟩
 ·simp only[z0,seval,s0,s1,q1,q6,q3,Int.reduceEq,Int.reduceLT,Int.reduceLE,gW,bS,bV,aV,bM,dH,cG,bR,h1];exact⟨fun _=>⟨_,rfl,by simp[aE]⟩,nofun⟩
theorem V5_ok(n:Nat)(x:Nd){ar:Int}(ht:x.text.length<4294967296):StepF V5 V6 n x (!Go.Lib.validD x.text) 6 ar:=fun {t st c} h=>by
 obtain⟨s0,s1,q1,q6,q3⟩:=h;have s00:=s0;have s11:=s1;unfold bU at s0 s1;have hble:decide (x.text.length≤9223372036854775807)=true:=bD (by omega)
 simp only[V5,Ab.abq];cases h1:Go.Lib.validD x.text
 ·simp only[z0,seval,s0,s1,q1,q6,q3,Int.reduceEq,Int.reduceLT,Int.reduceLE,gW,bS,bV,aV,bM,dH,cG,bR,h1,fn_spec (f:=158) (g:=oM) rfl rfl,oM,hble];exact⟨fun _=>⟨_,rfl,by simp[aE]⟩,nofun⟩
 ·simp only[z0,seval,s0,s1,q1,q6,q3,Int.reduceEq,Int.reduceLT,Int.reduceLE,gW,bS,bV,aV,bM,dH,cG,bR,h1,fn_spec (f:=158) (g:=oM) rfl rfl,oM,hble];exact⟨nofun,fun _=>⟨_,rfl,s00,s11,by simp[aE,q1],by simp[aE,q6],by simp[aE,q3]⟩⟩
theorem V6_ok(n:Nat)(x:Nd){ar:Int}{k:Nat}(hk:cntL x.text=some k)(ht:x.text.length<4294967296):StepF V6 V7 n x (decide (400<((k:Nat):Int))||(decide (x.kind=3)&&decide (400≤x.kids))) 3 ar:=fun {t st c} h=>by
 obtain⟨s0,s1,q1,q6,q3⟩:=h;have s00:=s0;have s11:=s1;unfold bU at s0 s1;have h164:=c164 (n+8) hk ht;simp only[V6,Ab.abq];cases h1:decide (400<((k:Nat):Int))
 ·cases h2:decide (x.kind=3)
  ·simp only[z0,seval,s0,s1,q1,q6,q3,Int.reduceEq,Int.reduceLT,Int.reduceLE,gW,bS,bV,aV,bM,dH,cG,bR,h1,h2,aF (f:=164) rfl,aQ,h164];exact⟨nofun,fun _=>⟨_,rfl,s00,s11,by simp[aE,q1],by simp[aE,q6],by simp[aE,q3]⟩⟩
  ·cases h3:decide (400≤x.kids)
   ·simp only[z0,seval,s0,s1,q1,q6,q3,Int.reduceEq,Int.reduceLT,Int.reduceLE,gW,bS,bV,aV,bM,dH,cG,bR,h1,h2,h3,aF (f:=164) rfl,aQ,h164];exact⟨nofun,fun _=>⟨_,rfl,s00,s11,by simp[aE,q1],by simp[aE,q6],by simp[aE,q3]⟩⟩
   ·simp only[z0,seval,s0,s1,q1,q6,q3,Int.reduceEq,Int.reduceLT,Int.reduceLE,gW,bS,bV,aV,bM,dH,cG,bR,h1,h2,h3,aF (f:=164) rfl,aQ,h164];exact⟨fun _=>⟨_,rfl,by simp[aE]⟩,nofun⟩
 ·simp only[z0,seval,s0,s1,q1,q6,q3,Int.reduceEq,Int.reduceLT,Int.reduceLE,gW,bS,bV,aV,bM,dH,cG,bR,h1,aF (f:=164) rfl,aQ,h164];exact⟨fun _=>⟨_,rfl,by simp[aE]⟩,nofun⟩
theorem V7_ok(n:Nat)(x:Nd){ar:Int}:StepF V7 V8 n x ((decide (x.kind=3)&&decide (x.kids<0))||((decide (x.kind=5) && !decide (x.kids=ar))||(decide (x.kind=6)&&(decide (x.kids<1)||decide (2<x.kids))))) 23 ar:=fun {t st c} h=>by
 obtain⟨s0,s1,q1,q6,q3⟩:=h;have s00:=s0;have s11:=s1;unfold bU at s0 s1;simp only[V7,Ab.abq];by_cases k3:x.kind=3
 ·rw[k3];rw[k3]at s0;cases h1:decide (x.kids<0)
  ·simp only[z0,seval,s0,s1,q1,q6,q3,Int.reduceEq,Int.reduceLT,Int.reduceLE,gW,bS,bV,aV,bM,dH,cG,bR,h1];exact⟨nofun,fun _=>⟨_,rfl,s00,s11,by simp[aE,q1],by simp[aE,q6],by simp[aE,q3]⟩⟩
  ·simp only[z0,seval,s0,s1,q1,q6,q3,Int.reduceEq,Int.reduceLT,Int.reduceLE,gW,bS,bV,aV,bM,dH,cG,bR,h1];exact⟨fun _=>⟨_,rfl,by simp[aE]⟩,nofun⟩
 by_cases k5:x.kind=5
 ·rw[k5];rw[k5]at s0;cases h1:decide (x.kids=ar)
  ·simp only[z0,seval,s0,s1,q1,q6,q3,Int.reduceEq,Int.reduceLT,Int.reduceLE,gW,bS,bV,aV,bM,dH,cG,bR,h1];exact⟨fun _=>⟨_,rfl,by simp[aE]⟩,nofun⟩
  ·simp only[z0,seval,s0,s1,q1,q6,q3,Int.reduceEq,Int.reduceLT,Int.reduceLE,gW,bS,bV,aV,bM,dH,cG,bR,h1];exact⟨nofun,fun _=>⟨_,rfl,s00,s11,by simp[aE,q1],by simp[aE,q6],by simp[aE,q3]⟩⟩
 by_cases k6:x.kind=6
 ·rw[k6];rw[k6]at s0;cases h1:decide (x.kids<1)
  ·cases h2:decide (2<x.kids)
   ·simp only[z0,seval,s0,s1,q1,q6,q3,Int.reduceEq,Int.reduceLT,Int.reduceLE,gW,bS,bV,aV,bM,dH,cG,bR,h1,h2];exact⟨nofun,fun _=>⟨_,rfl,s00,s11,by simp[aE,q1],by simp[aE,q6],by simp[aE,q3]⟩⟩
   ·simp only[z0,seval,s0,s1,q1,q6,q3,Int.reduceEq,Int.reduceLT,Int.reduceLE,gW,bS,bV,aV,bM,dH,cG,bR,h1,h2];exact⟨fun _=>⟨_,rfl,by simp[aE]⟩,nofun⟩
  ·simp only[z0,seval,s0,s1,q1,q6,q3,Int.reduceEq,Int.reduceLT,Int.reduceLE,gW,bS,bV,aV,bM,dH,cG,bR,h1];exact⟨fun _=>⟨_,rfl,by simp[aE]⟩,nofun⟩
 simp only[z0,seval,s0,s1,q1,q6,q3,Int.reduceEq,Int.reduceLT,Int.reduceLE,gW,bS,bV,aV,bM,dH,cG,bR,aK k3,aK k5,aK k6];exact⟨nofun,fun _=>⟨_,rfl,s00,s11,by simp[aE,q1],by simp[aE,q6],by simp[aE,q3]⟩⟩
theorem V8_ok(n:Nat)(x:Nd){ar:Int}(hn:x.name.length<9223372036854775807):StepF V8 .skip n x ((decide (x.kind=4)||decide (x.kind=6)) && !iP x.name) 24 ar:=fun {t st c} h=>by
 obtain⟨s0,s1,q1,q6,q3⟩:=h;have s00:=s0;have s11:=s1;unfold bU at s0 s1;have h61:=c61 n x.name hn;simp only[V8,Ab.abq];by_cases k4:x.kind=4
 ·rw[k4];rw[k4]at s0;cases h9:iP x.name
  ·simp only[z0,seval,s0,s1,q1,q6,q3,Int.reduceEq,Int.reduceLT,Int.reduceLE,gW,bS,bV,aV,bM,dH,cG,bR,h9,aF (f:=61) rfl,aQ,h61];exact⟨fun _=>⟨_,rfl,by simp[aE]⟩,nofun⟩
  ·simp only[z0,seval,s0,s1,q1,q6,q3,Int.reduceEq,Int.reduceLT,Int.reduceLE,gW,bS,bV,aV,bM,dH,cG,bR,h9,aF (f:=61) rfl,aQ,h61];exact⟨nofun,fun _=>⟨_,rfl,s00,s11,by simp[aE,q1],by simp[aE,q6],by simp[aE,q3]⟩⟩
 by_cases k6:x.kind=6
 ·rw[k6];rw[k6]at s0;cases h9:iP x.name
  ·simp only[z0,seval,s0,s1,q1,q6,q3,Int.reduceEq,Int.reduceLT,Int.reduceLE,gW,bS,bV,aV,bM,dH,cG,bR,h9,aF (f:=61) rfl,aQ,h61];exact⟨fun _=>⟨_,rfl,by simp[aE]⟩,nofun⟩
  ·simp only[z0,seval,s0,s1,q1,q6,q3,Int.reduceEq,Int.reduceLT,Int.reduceLE,gW,bS,bV,aV,bM,dH,cG,bR,h9,aF (f:=61) rfl,aQ,h61];exact⟨nofun,fun _=>⟨_,rfl,s00,s11,by simp[aE,q1],by simp[aE,q6],by simp[aE,q3]⟩⟩
 simp only[z0,seval,s0,s1,q1,q6,q3,Int.reduceEq,Int.reduceLT,Int.reduceLE,gW,bS,bV,aV,bM,dH,cG,bR,aK k4,aK k6];exact⟨nofun,fun _=>⟨_,rfl,s00,s11,by simp[aE,q1],by simp[aE,q6],by simp[aE,q3]⟩⟩
end
end Zv
namespace Zv
open Go Ab
noncomputable section
end
end Zv
namespace Zv
open Go
noncomputable section
def arI(p:Int):Int:=match arD p with | .tup [.int _ a,_]=>a|_=>0
def mJ(x:Nd):Int:=
 bif decide (x.kind<1)||(decide (6<x.kind)||surB x) then 2 else
 bif decide (x.site<0)||decide (1000000000<x.site) then 7 else
 bif decide (cntI x.text<0) then 6 else
 bif decide (400<cntI x.text)||(decide (x.kind=3)&&decide (400≤x.kids)) then 3 else
 bif (decide (x.kind=3)&&decide (x.kids<0))||((decide (x.kind=5) && !decide (x.kids=arI x.prim))||(decide (x.kind=6)&&(!decide (x.kids=1) && !decide (x.kids=2)))) then 23 else
 bif (decide (x.kind=4)||decide (x.kind=6)) && !iP x.name then 24 else 0
def lL(x:Nd):Int:=
 bif !zeroB (gG x) then 2 else
 bif decide (x.site<0)||decide (1000000000<x.site) then 7 else
 bif decide (cntI x.text<0) then 6 else
 bif decide (400<cntI x.text)||(decide (x.kind=3)&&decide (400≤x.kids)) then 3 else
 bif (decide (x.kind=3)&&decide (x.kids<0))||((decide (x.kind=5) && !decide (x.kids=arI x.prim))||(decide (x.kind=6)&&(!decide (x.kids=1) && !decide (x.kids=2)))) then 23 else
 bif (decide (x.kind=4)||decide (x.kind=6)) && !iP x.name then 24 else 0
theorem late_run(n:Nat)(x:Nd)(hn:x.name.length<9223372036854775807)(ht:x.text.length<4294967296){ar:Int}(har:x.kind=5→ar=arI x.prim){t:Tm}{st:St}{c:Nat}(h:StF x st t ar):
  ∃t',(lL x≠0∧zC V3 (cxn (n+9)) (fn (n+9) 4096) KK ⟨t,st,c,[],none⟩ = .ok .ret ⟨t',st,c,[],none⟩∧tget t' 2 = .int .i64 (lL x))∨(lL x=0∧zC V3 (cxn (n+9)) (fn (n+9) 4096) KK ⟨t,st,c,[],none⟩ = .ok .normal ⟨t',st,c,[],none⟩):=by
 obtain⟨a3,b3⟩:=V3_ok n x (c:=c) h;cases e3 : !zeroB (gG x)
 case true=>
  obtain⟨t',r1,r2⟩:=a3 e3;have:lL x=2:=by rw[lL,e3];rfl
  exact⟨t',.inl ⟨by rw[this];decide,r1,by rw[this];exact r2⟩⟩
 obtain⟨t3,r3,k3⟩:=b3 e3;obtain⟨a4,b4⟩:=V4_ok n x (c:=c) k3;cases e4:(decide (x.site<0)||decide (1000000000<x.site))
 case true=>
  obtain⟨t',r1,r2⟩:=a4 e4;have:lL x=7:=by rw[lL,e3,e4];rfl
  exact⟨t',.inl ⟨by rw[this];decide,r3.trans r1,by rw[this];exact r2⟩⟩
 obtain⟨t4,r4,k4⟩:=b4 e4;obtain⟨a5,b5⟩:=V5_ok n x ht (c:=c) k4;have hcv:decide (cntI x.text<0) = !Go.Lib.validD x.text:=by
  rw[valid_cnt,cntI];cases cntL x.text with
  | none=>rfl
  | some k=>simp
 cases e5 : !Go.Lib.validD x.text
 case true=>
  obtain⟨t',r1,r2⟩:=a5 e5;have:lL x=6:=by rw[lL,e3,e4,hcv,e5];rfl
  exact⟨t',.inl ⟨by rw[this];decide,r3.trans (r4.trans r1),by rw[this];exact r2⟩⟩
 obtain⟨t5,r5,k5⟩:=b5 e5;obtain⟨k,hk⟩:∃k,cntL x.text=some k:=by
  rw[valid_cnt]at e5;cases hc:cntL x.text with
  | none=>rw[hc]at e5;cases e5
  | some k=>exact⟨k,rfl⟩
 have hci:cntI x.text=(k:Nat):=by rw[cntI,hk]
 obtain⟨a6,b6⟩:=V6_ok n x hk ht (c:=c) k5;cases e6:(decide (400<((k:Nat):Int))||(decide (x.kind=3)&&decide (400≤x.kids)))
 case true=>
  obtain⟨t',r1,r2⟩:=a6 e6;have:lL x=3:=by rw[lL,e3,e4,hcv,e5,hci,e6];rfl
  exact⟨t',.inl ⟨by rw[this];decide,r3.trans (r4.trans (r5.trans r1)),by rw[this];exact r2⟩⟩
 obtain⟨t6,r6,k6⟩:=b6 e6;obtain⟨a7,b7⟩:=V7_ok n x (c:=c) k6;have h7:((decide (x.kind=3)&&decide (x.kids<0))||((decide (x.kind=5) && !decide (x.kids=ar))||(decide (x.kind=6)&&(decide (x.kids<1)||decide (2<x.kids)))))=((decide (x.kind=3)&&decide (x.kids<0))||((decide (x.kind=5) && !decide (x.kids=arI x.prim))||(decide (x.kind=6)&&(!decide (x.kids=1) && !decide (x.kids=2))))):=by
  have e1:(decide (x.kids<1)||decide (2<x.kids))=(!decide (x.kids=1) && !decide (x.kids=2)):=by
   rw[dC];simp;omega
  by_cases h5:x.kind=5
  ·rw[e1,har h5]
  ·rw[e1,aK h5];simp
 cases e7:((decide (x.kind=3)&&decide (x.kids<0))||((decide (x.kind=5) && !decide (x.kids=ar))||(decide (x.kind=6)&&(decide (x.kids<1)||decide (2<x.kids)))))
 case true=>
  obtain⟨t',r1,r2⟩:=a7 e7;have:lL x=23:=by rw[lL,e3,e4,hcv,e5,hci,e6,←h7,e7];rfl
  exact⟨t',.inl ⟨by rw[this];decide,r3.trans (r4.trans (r5.trans (r6.trans r1))),by rw[this];exact r2⟩⟩
 obtain⟨t7,r7,k7⟩:=b7 e7;obtain⟨a8,b8⟩:=V8_ok n x hn (c:=c) k7;cases e8:((decide (x.kind=4)||decide (x.kind=6)) && !iP x.name)
 case true=>
  obtain⟨t',r1,r2⟩:=a8 e8;have:lL x=24:=by rw[lL,e3,e4,hcv,e5,hci,e6,←h7,e7,e8];rfl
  exact⟨t',.inl ⟨by rw[this];decide,r3.trans (r4.trans (r5.trans (r6.trans (r7.trans r1)))),by rw[this];exact r2⟩⟩
 obtain⟨t8,r8,k8⟩:=b8 e8;have:lL x=0:=by rw[lL,e3,e4,hcv,e5,hci,e6,←h7,e7,e8];rfl
 exact⟨t8,.inr ⟨this,r3.trans (r4.trans (r5.trans (r6.trans (r7.trans r8))))⟩⟩
theorem sur_rest(x:Nd)(h:¬(x.kind<1∨6<x.kind)):surB x=(decide (x.kind=5∧(x.prim<1∨40<x.prim)) || !zeroB (gG x)):=by
 have hb:∀z:Int,(z==0)=decide (z=0):=fun z=>rfl
 have hl:∀l:List UInt8,(l==[])=decide (l=[]):=fun l=>by cases l<;>simp
 obtain k|k|k|k|k|k:x.kind=1∨x.kind=2∨x.kind=3∨x.kind=4∨x.kind=5∨x.kind=6:=by omega
 all_goals (unfold surB zeroB gG;simp only[k,hb,hl,Int.reduceEq,↓reduceIte,aV,bM,cG,bR,Bool.true_and,Bool.false_and,Bool.and_true,Bool.or_false,Bool.false_or,Bool.true_or,true_and,false_and])
 all_goals (generalize decide (x.n=0)=b1;generalize decide (x.text=[])=b2;generalize decide (x.name=[])=b3;generalize decide (x.prim=0)=b4;generalize decide (x.kids=0)=b5;generalize decide (x.prim<1∨40<x.prim)=b6;cases b1<;>cases b2<;>cases b3<;>cases b4<;>cases b5<;>cases b6<;>rfl)
theorem wrong_late(x:Nd):mJ x=if x.kind<1∨6<x.kind then 2 else if x.kind=5∧(x.prim<1∨40<x.prim) then 2 else lL x:=by
 by_cases h:x.kind<1∨6<x.kind
 ·rw[aH h,mJ];have:(decide (x.kind<1)||(decide (6<x.kind)||surB x))=true:=by
   rcases h with h|h<;>simp[h]
  rw[this];rfl
 ·rw[aD h];have h1:decide (x.kind<1)=false:=aK fun h'=>h (.inl h')
  have h2:decide (6<x.kind)=false:=aK fun h'=>h (.inr h')
  have hs:=sur_rest x h;rw[mJ,h1,h2,hs,Bool.false_or,Bool.false_or];by_cases h5:x.kind=5∧(x.prim<1∨40<x.prim)
  ·rw[aH h5,bD h5];rfl
  ·rw[aD h5,aK h5,Bool.false_or,lL]
theorem c119(n:Nat)(x:Nd)(hn:x.name.length<9223372036854775807)(ht:x.text.length<4294967296):cl (n+9) 119 [.agg (bU x)]=some (.int .i64 (mJ x),true):=by
 rw[cK (A:=A119) rfl (n+9) _ rfl,show A119.body=B119 from rfl,B119_eq,wrong_late]
 simp only[V1,V2,Ab.abq];have htk:dE [.int .i64 x.kind,.int .i64 x.prim,.int .i64 x.kids,.str x.name,.str x.text,.int .i64 x.n,.int .i64 x.site] 0 (some 7)=some (.agg (bU x)):=rfl;have hfz:∀st,[D.agg (bU x)].mapM (frz false 20 st)=some [D.agg (bU x)]:=fun _=>rfl
 have h123:=c123 (n+8) x;have hl7:(bU (gG x)).length=7:=rfl;have hna:(bU (gG x)).any eU=false:=rfl;have hset:eS [.int .i64 0,.int .i64 0,.int .i64 0,.str [],.str [],.int .i64 0,.int .i64 0] 0 (bU (gG x))=bU (gG x):=rfl;by_cases h1:x.kind<1
 ·rw[aH (.inl h1)];unfold bU;simp only[z0,seval,bD h1,A119];rfl
 by_cases h2:6<x.kind
 ·rw[aH (.inr h2)];unfold bU;simp only[z0,seval,aK h1,bD h2,A119];rfl
 rw[aD (fun h=>h.elim h1 h2)]
 have fin:∀(ar:Int) (T:Tm) (S:St) (c:Nat),(x.kind=5→ar=arI x.prim)→StF x S T ar→pout (zbody (dfn (n+9) MM) A119 (zbind (mG 0 (zC V3 (cxn (n+9)) (fn (n+9) 4096) KK ⟨T,S,c,[],none⟩)) (zC (.seq (.reg none [⟨some 2,.mv (.c (.int .i64 0)),none⟩]) .ret) (cxn (n+9)) (fn (n+9) 4096) KK)))=some (.int .i64 (lL x),true):=fun ar T S c har hst=>by
  obtain⟨t',⟨h0,r1,r2⟩|⟨h0,r1⟩⟩:=late_run n x hn ht har (c:=c) hst
  ·simp only[z0,seval,r1,r2,A119];rfl
  ·simp only[z0,seval,r1,A119];rw[h0];rfl
 by_cases h5:x.kind=5
 ·rcases ar_cases x.prim with⟨a,hf,hr,_⟩|⟨hf,hr⟩
  ·rw[aD (fun h=>hr h.2)]
   have har:arI x.prim=a:=by rw[arI,hf];rfl
   have htk5:dE [.int .i64 5,.int .i64 x.prim,.int .i64 x.kids,.str x.name,.str x.text,.int .i64 x.n,.int .i64 x.site] 0 (some 7)=some (.agg (bU x)):=by rw[←h5];rfl
   unfold bU;simp only[z2,seval,h5,Int.reduceLT,aV,bM,aF (f:=163) rfl,aQ,c163 (n+4) x.prim,hf,fS,gW,bS,eq_self,htk5];simp only[z2,seval,aF (f:=123) rfl,aQ,hfz,h123,hl7,hna,hset,Nat.reduceLeDiff,bJ];refine fin a _ _ _ (fun _=>har.symm) ⟨?_,?_,?_,?_,?_⟩
   ·simp[aE];rw[bU,h5]
   all_goals simp[aE]
  ·rw[aH ⟨h5,hr⟩];unfold bU;simp only[z2,seval,h5,Int.reduceLT,aV,bM,aF (f:=163) rfl,aQ,c163 (n+4) x.prim,hf,fS,gW,Int.reduceEq,bV,A119];rfl
 ·rw[aD (fun h=>h5 h.1)]
  unfold bU;simp only[z2,seval,aK h1,aK h2,aK h5,htk];simp only[z2,seval,aF (f:=123) rfl,aQ,hfz,h123,hl7,hna,hset,Nat.reduceLeDiff,bJ];refine fin 0 _ _ _ (fun h=>absurd h h5) ⟨?_,?_,?_,?_,?_⟩
  ·simp[aE];rfl
  all_goals simp[aE]
def sX(l:List Nd)(p:Nat):Bool:=match l[p]? with|some x=>decide (x.kind=1)|none=>false
def nV(l:List Nd)(i k:Nat):Bool:=allN k fun j=>sX l (i+1+j)
theorem numB_lt{l:List Nd}{p:Nat}(h:p<l.length):sX l p=decide (l[p].kind=1):=by unfold sX;rw[aI h]
theorem numB_ge{l:List Nd}{p:Nat}(h:l.length≤p):sX l p=false:=by unfold sX;rw[gO h]
structure oU (x:Nd):Prop where
 k3:x.kind=3→0≤x.kids∧x.kids<400
 kp:x.kind=5∨x.kind=6→x.kids=1∨x.kids=2
theorem good_of{x:Nd}(h:mJ x=0):oU x:=by
 unfold mJ at h;cases h1:decide (x.kind<1)||(decide (6<x.kind)||surB x)
 case true=>rw[h1]at h;cases h
 cases h2:decide (x.site<0)||decide (1000000000<x.site)
 case true=>rw[h1,h2]at h;cases h
 cases h3:decide (cntI x.text<0)
 case true=>rw[h1,h2,h3]at h;cases h
 cases h4:decide (400<cntI x.text)||(decide (x.kind=3)&&decide (400≤x.kids))
 case true=>rw[h1,h2,h3,h4]at h;cases h
 cases h5:(decide (x.kind=3)&&decide (x.kids<0))||((decide (x.kind=5) && !decide (x.kids=arI x.prim))||(decide (x.kind=6)&&(!decide (x.kids=1) && !decide (x.kids=2))))
 case true=>rw[h1,h2,h3,h4,h5]at h;cases h
 simp only[Bool.or_eq_false_iff,Bool.and_eq_false_imp,cI,bX,Bool.not_eq_false',Bool.not_eq_eq_eq_not,cG]at h1 h4 h5;refine⟨fun k=>⟨by have:=h5.1 k;omega,by have:=h4.2 k;omega⟩,fun k=>?_⟩
 rcases k with k|k
 ·have e:=of_decide_eq_true (h5.2.1 k);have hs:=h1.2.2;rcases ar_cases x.prim with⟨a,hf,hr,ha⟩|⟨hf,hr⟩
  ·have e':x.kids=a:=e.trans (by rw[arI,hf];rfl)
   rw[e',ha];split<;>simp
  ·exfalso;have:decide (x.kind=5∧(x.prim<1∨40<x.prim))=true:=bD ⟨k,hr⟩;rw[sur_rest x (by omega),this]at hs
   cases hs
 ·have:=h5.2.2 k;by_cases e:x.kids=1
  ·exact .inl e
  ·exact .inr (by simpa[e]using this)
structure jS (l:List Nd):Prop where
 nd:∀(i:Nat) (h:i<l.length),oU l[i]
 ls:∀(i:Nat) (h:i<l.length),l[i].kind=3→i+1+l[i].kids.toNat≤l.length
def nF(l:List Nd):Nat→Nat→Nat
 | 0,_=>l.length+1
 | f+1,i=>match l[i]? with
  | none=>l.length+1
  | some x=>if x.kind=3 then i+1+x.kids.toNat else if fJ x=1 then nF l f (i+1) else if fJ x=2 then(if nF l f (i+1)≤l.length then nF l f (nF l f (i+1)) else nF l f (i+1)) else i+1
theorem endF_gt(l:List Nd):∀(f i:Nat),i≤l.length→i<nF l f i
 | 0,i,h=>by rw[nF];omega
 | f+1,i,h=>by
  rw[nF];cases hx:l[i]? with
  | none=>simp only;omega
  | some x=>
   have hlt:i<l.length:=(cH.1 hx).1;have h1:=endF_gt l f (i+1) (by omega)
   simp only;split
   ·omega
   ·split
    ·omega
    ·split
     ·split
      ·rename_i h';have:=endF_gt l f _ h';omega
      ·omega
     ·omega
theorem endF_le{l:List Nd}(hg:jS l):∀(f i:Nat),nF l f i≤l.length+1
 | 0,i=>by rw[nF];omega
 | f+1,i=>by
  rw[nF];cases hx:l[i]? with
  | none=>simp only;omega
  | some x=>
   obtain⟨hlt,rfl⟩:=cH.1 hx;have h1:=endF_le hg f (i+1);simp only;split
   ·rename_i h3;have:=hg.ls i hlt h3;omega
   ·split
    ·exact h1
    ·split
     ·split
      ·exact endF_le hg f _
      ·exact h1
     ·omega
theorem uG(l:List Nd):∀(f g i:Nat),l.length+1≤f+i→l.length+1≤g+i→nF l f i=nF l g i
 | 0,0,i,_,_=>rfl
 | 0,g+1,i,h,_=>by rw[nF,nF,gO (by omega)]
 | f+1,0,i,_,h=>by rw[nF,nF,gO (by omega)]
 | f+1,g+1,i,hf,hg=>by
  rw[nF,nF];cases hx:l[i]? with
  | none=>rfl
  | some x=>
   have hlt:i<l.length:=(cH.1 hx).1;simp only;have e1:=uG l f g (i+1) (by omega) (by omega)
   have h1:=endF_gt l g (i+1) (by omega)
   rw[e1,uG l f g (nF l g (i+1)) (by omega) (by omega)]
def eN(l:List Nd)(i:Nat):Nat:=nF l (l.length+1) i
theorem eN_gt{l:List Nd}{i:Nat}(h:i≤l.length):i<eN l i:=endF_gt l _ i h
theorem eN_le{l:List Nd}(hg:jS l)(i:Nat):eN l i≤l.length+1:=endF_le hg _ i
theorem eN_ge{l:List Nd}{i:Nat}(h:l.length≤i):eN l i=l.length+1:=by rw[eN,nF,gO h]
theorem eN_eq{l:List Nd}{i:Nat}(h:i<l.length):eN l i=if l[i].kind=3 then i+1+l[i].kids.toNat else if fJ l[i]=1 then eN l (i+1) else if fJ l[i]=2 then(if eN l (i+1)≤l.length then eN l (eN l (i+1)) else eN l (i+1)) else i+1:=by
 have h1:nF l l.length (i+1)=eN l (i+1):=uG l _ _ _ (by omega) (by omega)
 have h2:=eN_gt (l:=l) (i:=i+1) (by omega)
 have h3:nF l l.length (eN l (i+1))=eN l (eN l (i+1)):=uG l _ _ _ (by omega) (by omega)
 rw[eN,nF,aI h];simp only;rw[h1,h3]
theorem oE{x:Nd}(h:oU x):fJ x=0∨fJ x=1∨fJ x=2:=by
 unfold fJ;split
 ·rename_i k;have:=h.kp k;omega
 ·exact .inl rfl
def jK(k:Nat):List D:=[.int .i64 (k:Int)]
theorem uI:EncG 1 jK:=⟨fun _=>rfl,by decide,fun _=>rfl,fun _ _ _ _=>rfl⟩
def kidsL(l:List Nd)(i:Nat):List Nat:=match l[i]? with
 | none=>[]
 | some x=>if fJ x=1 then[i+1]else if fJ x=2 then[i+1,eN l (i+1)] else[]
theorem kidsL_eq{l:List Nd}{i:Nat}(h:i<l.length):kidsL l i=if fJ l[i]=1 then[i+1]else if fJ l[i]=2 then[i+1,eN l (i+1)] else[]:=by rw[kidsL,aI h]
theorem kids_in{l:List Nd}(hg:jS l){i:Nat}(h:i<l.length)(he:eN l i≤l.length):∀k∈kidsL l i,i<k∧k<l.length∧eN l k≤l.length:=by
 have hE:=eN_eq h;have hgt:=eN_gt (l:=l) (i:=i+1) (by omega)
 have n3:fJ l[i]=1∨fJ l[i]=2→¬l[i].kind=3:=by
  intro hm k;unfold fJ at hm;rw[aD (by omega)]at hm;omega
 have ok:∀k,k≤l.length→eN l k≤l.length→k<l.length:=fun k h1 h2=>by
  refine Classical.byContradiction fun h=>?_
  rw[eN_ge (by omega)]at h2;omega
 rw[kidsL_eq h];rcases oE (hg.nd i h) with hm|hm|hm
 ·rw[hm];simp
 ·rw[aD (n3 (.inl hm)),hm,aH rfl]at hE;rw[hm,aH rfl];intro k hk;rw[eB.1 hk,←hE];exact⟨by omega,ok _ (by omega) (by rw[←hE];exact he),he⟩
 ·rw[aD (n3 (.inr hm)),hm,aD (by decide),aH rfl]at hE
  rw[hm,aD (by decide),aH rfl]
  have h1:eN l (i+1)≤l.length:=by
   refine Classical.byContradiction fun h'=>?_
   rw[aD h']at hE;omega
  rw[aH h1]at hE;intro k hk;rcases bL.1 hk with rfl|hk
  ·exact⟨by omega,ok _ (by omega) h1,h1⟩
  ·rw[eB.1 hk];exact⟨by omega,ok _ h1 (by omega),by omega⟩
structure Lt (ss:List (List UInt8)) (us:List Nat) (d e:D):Prop where
 d:Sl 1 iC ss d
 e:Sl 1 u8C us e
 u:iM us
 s:oS ss
 c:CHK ss us=e2 0 0
 l:us.length=ss.length
 h1:1≤ss.length
 h8:ss.length≤8
def J(us:List Nat)(a b:Nat):Nat:=(jH (uM us) us.length a b).toNat
theorem Lt.j{ss:List (List UInt8)}{us:List Nat}{d e:D}(h:Lt ss us d e){a b:Nat}(ha:a<us.length)(hb:b<us.length):jH (uM us) us.length a b=(J us a b:Nat)∧J us a b<us.length:=by
 obtain⟨k,h1,h2⟩:=near_nat h.c (h.l▸ha) (h.l▸hb)
 unfold J;rw[h.l,h1];exact⟨rfl,by rw[cU];exact h2⟩
def jF(us:List Nat)(b:Nat)(l:List Nat):Nat:=l.foldl (J us) b
theorem Lt.jF{ss:List (List UInt8)}{us:List Nat}{d e:D}(h:Lt ss us d e):∀{l:List Nat} {b:Nat},b<us.length→(∀x∈l,x<us.length)→Zv.jF us b l<us.length
 | [],b,hb,_=>hb
 | a::l,b,hb,hl=>Lt.jF h (l:=l) (h.j hb (hl a (bH ..))).2 fun x hx=>hl x (bG _ hx)
theorem jF_step(us:List Nat)(b:Nat)(l:List Nat){i:Nat}(hi:i<l.length):jF us b (l.take (i+1))=J us (jF us b (l.take i)) l[i]:=by
 unfold jF;rw[List.take_succ_eq_append_getElem hi,List.foldl_append];rfl
def lkC(d e:D)(a b:Ty)(bot:Nat):List D:=[d,e,.int .i64 a.kind,.int .i64 a.rank,.int .i64 a.a0,.int .i64 a.a1,.int .i64 a.data,.int .i64 b.kind,.int .i64 b.rank,.int .i64 b.a0,.int .i64 b.a1,.int .i64 b.data,.int .i64 (bot:Nat)]
theorem c278(n:Nat){ss:List (List UInt8)}{us:List Nat}{d e q:D}(h:Lt ss us d e)(a b:Ty){bot:Nat}(hb:bot<us.length){ls:List Nat}(hq:Sl 1 jK ls q)(hl:∀x∈ls,x<us.length)(h63:ls.length<9223372036854775807):
  cl (n+1) 278 [.agg (lkC d e a b bot),q]=some (.int .i64 (jF us bot ls:Nat),true):=by
 rw[cK (A:=A278) rfl (n+1) _ rfl,show A278.body=B278 from rfl]
 unfold B278 lkC;have h8:=h.h8;have hul:=h.l;have hx:∀c (hc:c<us.length),us[c]=uM us c:=fun c hc=>(jX hc 0).symm
 simp only[z0,seval,h.d.nag,h.e.nag,hq.len];generalize hz:zloop KK _ _=rl;refine zrange rl hz ls.length (fQ h63) h63 (fun i t s c=>sget s 0=some (.fix 234 (lkC d e a b bot))∧tget t 2 = .ptr 0 0∧tget t 10=q∧tget t 5 = .int .i64 (jF us bot (ls.take i):Nat)) (by decide) (by simp[aE]) (by simp[aE]) (by simp[aE,lkC];rfl) ?_ ?_
 ·rintro i t s c hi ⟨s0,q2,q10,q5⟩ hti htn;have hg:jF us bot (ls.take i)<us.length:=h.jF hb fun x hx=>hl x (eW hx)
  have hm:=hl _ (cB hi);have h69:=c69 n h.e (by omega) (jF us bot (ls.take i)) ls[i]
  rw[jF_step us bot ls hi];generalize jF us bot (ls.take i)=o at *;obtain⟨j1,j2⟩:=h.j hg hm;rw[j1]at h69;unfold lkC at s0
  simp only[z0,seval,s0,q2,q10,q5,hti,htn,hq.ia1 hi,hq.at1 hi,jK,eG,cX,iS,qB,AOp.kd,gI,jE,iK,iF,gJ,fC,dM,fH,h.e.ia1 hg,h.e.at1 hg,h.e.ia1 hm,h.e.at1 hm,u8C,hx _ hg,hx _ hm,iG (lI h.u o) (lI h.u ls[i]),aF (f:=69) rfl,aQ,h.e.fz,h69]
  exact⟨trivial,trivial,trivial,.inr (.inr trivial),nofun,nofun,rfl,trivial,trivial,trivial⟩
 ·rintro t s c ⟨s0,q2,q10,q5⟩ hti htn;rw[List.take_length]at q5;simp only[z0,seval,q5,A278];rfl
structure Tl where
 k:Int
 r:Int
 x:Nat
 y:Nat
 z:Nat
def tl(t:Tl):Ty:=⟨t.k,t.r,t.x,t.y,t.z⟩
def Tl.ok(n:Nat)(t:Tl):Prop:=t.x<n∧t.y<n∧t.z<n
theorem pI(ex:Bool)(a b:Nat):Sl 1 jK [a,b] (.sl ex 2 [.int .i64 (a:Int),.int .i64 (b:Int)]):=⟨fun r hr=>by simp[jK]at hr;rcases hr with rfl|rfl<;>rfl,.inr ⟨ex,rfl⟩⟩
theorem mem2{n a b:Nat}(ha:a<n)(hb:b<n):∀x∈[a,b],x<n:=fun x hx=>by
 rcases bL.1 hx with rfl|hx
 ·exact ha
 ·exact(eB.1 hx)▸hb
theorem b2:fT 2 2 none=some 2∧fT 2 0 none=some 0:=⟨rfl,rfl⟩
section
variable (n:Nat) {ss:List (List UInt8)} {us:List Nat} {d e:D} (h:Lt ss us d e) (a b:Tl) {bot:Nat} (hb:bot<us.length) (ha:a.ok us.length) (hb':b.ok us.length)
include h hb ha hb'
theorem c276:cl (n+2) 276 [.agg (lkC d e (tl a) (tl b) bot)]=some (.int .i64 (jF us bot [a.z,b.z]:Nat),true):=by
 rw[cK (A:=A276) rfl (n+2) _ rfl,show A276.body=B276 from rfl]
 simp only[B276,Ab.abq];have h278:=c278 n h (tl a) (tl b) hb (pI true a.z b.z) (mem2 ha.2.2 hb'.2.2) (show 2<9223372036854775807 by decide)
 unfold lkC tl at *;simp only[z0,seval,h.d.nag,h.e.nag,aF (f:=278) rfl,aQ,h.d.fz,h.e.fz,h278,iQ,Nat.reduceMul,aJ,aV,A276];rfl
theorem c279(t:Tl)(ht:t.ok us.length):cl (n+2) 279 [.agg (lkC d e (tl a) (tl b) bot),.agg (tyC (tl t))]=some (.int .i64 (jF us bot [t.x,t.y]:Nat),true):=by
 have _h1:=ha;have _h2:=hb';rw[cK (A:=A279) rfl (n+2) _ rfl,show A279.body=B279 from rfl]
 simp only[B279,Ab.abq];have h278:=c278 n h (tl a) (tl b) hb (pI true t.x t.y) (mem2 ht.1 ht.2.1) (show 2<9223372036854775807 by decide)
 unfold lkC tl tyC at *;simp only[z0,seval,h.d.nag,h.e.nag,eG,cX,AOp.kd,zop,tks,cC,dW,cT,eC,eQ,b2,dU,bQ,aO,aF (f:=278) rfl,aQ,h.d.fz,h.e.fz,h278,iQ,Nat.reduceMul,fF,Nat.reduceAdd,Nat.reduceLeDiff,aJ,aV,A279];rfl
theorem c277:cl (n+3) 277 [.agg (lkC d e (tl a) (tl b) bot)]=some (.int .i64 (jF us bot [jF us bot [a.x,a.y],jF us bot [b.x,b.y]]:Nat),true):=by
 rw[cK (A:=A277) rfl (n+3) _ rfl,show A277.body=B277 from rfl]
 simp only[B277,Ab.abq];have h1:=c279 n h a b hb ha hb' a ha;have h2:=c279 n h a b hb ha hb' b hb';have h278:=c278 (n+1) h (tl a) (tl b) hb (pI true (jF us bot [a.x,a.y]) (jF us bot [b.x,b.y])) (mem2 (h.jF hb (mem2 ha.1 ha.2.1)) (h.jF hb (mem2 hb'.1 hb'.2.1))) (show 2<9223372036854775807 by decide)
 unfold lkC tl tyC at *;simp only[z0,seval,h.d.nag,h.e.nag,eG,cX,AOp.kd,zop,tks,cC,dW,cT,eC,eQ,b2,dU,bQ,aO,aF (f:=278) rfl,aF (f:=279) rfl,aQ,h.d.fz,h.e.fz,h1,h2,h278,iQ,Nat.reduceMul,aJ,aV,A277];rfl
def sJ(us:List Nat)(bot:Nat)(t:Tl):Nat:=jF us bot [t.x,t.y]
def cJ(us:List Nat)(bot:Nat)(a b:Tl):Nat:=jF us bot [sJ us bot a,sJ us bot b]
def ruD(p q z w c:Int):D:=.agg [.int .i64 0,.int .i64 0,.int .i64 p,.int .i64 q,.int .i64 z,.int .i64 w,.int .i64 c]
theorem c275(p q z w:Int):cl (n+4) 275 [.agg (lkC d e (tl a) (tl b) bot),.agg [.int .i64 p,.int .i64 q],.int .i64 z,.int .i64 w]=some (ruD p q z w (cJ us bot a b:Nat),true):=by
 rw[cK (A:=A275) rfl (n+4) _ rfl,show A275.body=B275 from rfl]
 simp only[B275,Ab.abq];have h1:=c277 n h a b hb ha hb';unfold lkC tl at *;simp only[z0,seval,h.d.nag,h.e.nag,eG,cX,AOp.kd,zop,tks,cC,dW,cT,fL,aF (f:=277) rfl,aQ,h.d.fz,h.e.fz,h1,A275];rfl
theorem c280:cl (n+2) 280 [.agg (lkC d e (tl a) (tl b) bot)]=some (.agg [.int .i64 (jF us bot [a.x,b.x]:Nat),.int .i64 (jF us bot [a.y,b.y]:Nat)],true):=by
 rw[cK (A:=A280) rfl (n+2) _ rfl,show A280.body=B280 from rfl]
 simp only[B280,Ab.abq];have h1:=c278 n h (tl a) (tl b) hb (pI true a.x b.x) (mem2 ha.1 hb'.1) (show 2<9223372036854775807 by decide)
 have h2:=c278 n h (tl a) (tl b) hb (pI true a.y b.y) (mem2 ha.2.1 hb'.2.1) (show 2<9223372036854775807 by decide)
 unfold lkC tl at *;have i0:kQ 2 (.int .i64 0)=some 0:=rfl;have i1:kQ 2 (.int .i64 1)=some 1:=rfl
 simp only[z0,seval,h.d.nag,h.e.nag,zun,i0,i1,Int.reduceLT,Int.reduceAdd,nb,eG,cX,AOp.kd,zop,tks,cC,dW,cT,eQ,dU,bQ,aO,show dJ .i64 1=1 from rfl,show dJ .i64 2=2 from rfl,aF (f:=278) rfl,aQ,h.d.fz,h.e.fz,h1,h2,iQ,Nat.reduceMul,Nat.reduceAdd,aJ,aV,A280]
 rfl
end
def Rg(m:Nat)(x:Int):Prop:=∃k:Nat,x=k∧k<m
theorem rgN{m k:Nat}(h:k<m):Rg m (k:Int):=⟨k,rfl,h⟩
theorem i20:kQ 2 (.int .i64 0)=some 0∧kQ 2 (.int .i64 1)=some 1:=⟨rfl,rfl⟩
def l1:List (List UInt8):=[[105,110,105,110],[107,110,105,49],[107,110,107,49],[107,49,107,49],[107,50,107,50],[105,48,105,49],[105,49,105,48],[105,50,105,49],[107,49,105,48],[107,50,105,49],[105,49,105,49],[105,50,105,50]]
def kr:List (Int×Int):=[(1,0),(1,1),(1,2),(2,0),(2,1),(2,2)]
def okM(x:Option (D×Bool)):Bool:=match x with
 | some (.tup [.int .i64 k,.int .i64 r,.bool a,.bool b],true)=>!a||(!b||(decide (0≤r)&&decide (r≤2)))
 | _=>false
theorem t215(n:Nat):l1.all (fun s=>kr.all fun p=>okM (cl (n+1) 215 [.str s,.sl false 1 [.int .i64 p.1],.sl false 1 [.int .i64 p.2]]))=true:=by kernel_rfl
def l2:List (List UInt8):=[[105,48,105,110,105,110],[105,110,105,48,105,110],[105,110,105,110,105,110],[107,48,107,110,105,110],[107,110,107,48,105,110],[107,110,107,110,105,110],[105,48,107,49,107,49],[105,48,107,48,107,49],[105,49,107,49,107,50],[107,49,107,49,107,49],[107,50,107,50,107,50],[107,49,105,48,107,48],[107,49,105,49,107,49],[107,110,107,49,105,110],[105,49,107,49,107,49]]
def mB(n:Nat)(s:List UInt8):Bool:=kr.all fun p=>kr.all fun q=>okM (cl (n+1) 215 [.str s,.sl false 2 [.int .i64 p.1,.int .i64 q.1],.sl false 2 [.int .i64 p.2,.int .i64 q.2]])
theorem b215_0(n:Nat):mB n [105,48,105,110,105,110]=true:=by kernel_rfl
theorem b215_1(n:Nat):mB n [105,110,105,48,105,110]=true:=by kernel_rfl
theorem b215_2(n:Nat):mB n [105,110,105,110,105,110]=true:=by kernel_rfl
theorem b215_3(n:Nat):mB n [107,48,107,110,105,110]=true:=by kernel_rfl
theorem b215_4(n:Nat):mB n [107,110,107,48,105,110]=true:=by kernel_rfl
theorem b215_5(n:Nat):mB n [107,110,107,110,105,110]=true:=by kernel_rfl
theorem b215_6(n:Nat):mB n [105,48,107,49,107,49]=true:=by kernel_rfl
theorem b215_7(n:Nat):mB n [105,48,107,48,107,49]=true:=by kernel_rfl
theorem b215_8(n:Nat):mB n [105,49,107,49,107,50]=true:=by kernel_rfl
theorem b215_9(n:Nat):mB n [107,49,107,49,107,49]=true:=by kernel_rfl
theorem b215_10(n:Nat):mB n [107,50,107,50,107,50]=true:=by kernel_rfl
theorem b215_11(n:Nat):mB n [107,49,105,48,107,48]=true:=by kernel_rfl
theorem b215_12(n:Nat):mB n [107,49,105,49,107,49]=true:=by kernel_rfl
theorem b215_13(n:Nat):mB n [107,110,107,49,105,110]=true:=by kernel_rfl
theorem b215_14(n:Nat):mB n [105,49,107,49,107,49]=true:=by kernel_rfl
theorem t215b(n:Nat){s:List UInt8}(hs:s∈l2):mB n s=true:=by
 simp only[l2,bL,List.not_mem_nil,or_false]at hs;rcases hs with rfl|rfl|rfl|rfl|rfl|rfl|rfl|rfl|rfl|rfl|rfl|rfl|rfl|rfl|rfl
 ·exact b215_0 n
 ·exact b215_1 n
 ·exact b215_2 n
 ·exact b215_3 n
 ·exact b215_4 n
 ·exact b215_5 n
 ·exact b215_6 n
 ·exact b215_7 n
 ·exact b215_8 n
 ·exact b215_9 n
 ·exact b215_10 n
 ·exact b215_11 n
 ·exact b215_12 n
 ·exact b215_13 n
 ·exact b215_14 n
def KR(k r:Int):Prop:=(k=1∨k=2)∧0≤r∧r≤2
theorem kr_mem{k r:Int}(h:KR k r):(k,r)∈kr:=by
 obtain⟨h1,h2,h3⟩:=h;have:r=0∨r=1∨r=2:=by omega
 rcases h1 with rfl|rfl<;>rcases this with rfl|rfl|rfl<;>decide
theorem okM_ex{x:Option (D×Bool)}(h:okM x=true):∃k r a b,x=some (.tup [.int .i64 k,.int .i64 r,.bool a,.bool b],true)∧(a=true→b=true→0≤r∧r≤2):=by
 unfold okM at h;split at h
 ·refine⟨_,_,_,_,rfl,fun ha hb=>?_⟩
  simpa[ha,hb]using h
 ·cases h
theorem c215(n:Nat){s:List UInt8}(hs:s∈l1){k r:Int}(h:KR k r):∃k' r' a b,cl (n+1) 215 [.str s,.sl false 1 [.int .i64 k],.sl false 1 [.int .i64 r]]=some (.tup [.int .i64 k',.int .i64 r',.bool a,.bool b],true)∧(a=true→b=true→0≤r'∧r'≤2):=by
 have h1:=t215 n;rw[cE]at h1;have h2:=h1 s hs;rw[cE]at h2;exact okM_ex (h2 (k,r) (kr_mem h))
theorem c215b(n:Nat){s:List UInt8}(hs:s∈l2){k r k2 r2:Int}(h:KR k r)(h2:KR k2 r2):∃k' r' a b,cl (n+1) 215 [.str s,.sl false 2 [.int .i64 k,.int .i64 k2],.sl false 2 [.int .i64 r,.int .i64 r2]]=some (.tup [.int .i64 k',.int .i64 r',.bool a,.bool b],true)∧(a=true→b=true→0≤r'∧r'≤2):=by
 have g:=t215b n hs;unfold mB at g;rw[cE]at g;have g2:=g (k,r) (kr_mem h);rw[cE]at g2;exact okM_ex (g2 (k2,r2) (kr_mem h2))
def simD:D→Bool
 | .nils=>true
 | .sl _ _ _=>true
 | .nilfn=>true
 | .fn _ [] []=>true
 | _=>false
theorem simD_fz{d:D}(h:simD d=true)(k:Nat)(s:St):frz false (k+1) s d=some d:=by
 unfold simD at h;split at h<;>first|rfl|cases h
theorem jW{d:D}(h:simD d=true):eU d=false:=by
 unfold simD at h;split at h<;>first|rfl|cases h
def inL(l:List (List UInt8))(d:D):Bool:=match d with
 | .str s=>l.contains s
 | _=>false
def fOk(i:Nat)(x:Option (D×Bool)):Bool:=match x with
 | some (.tup [.agg [.str _,.sl _ k (.str s::cs),er,f1,f2],.int .i64 0],fl)=>simD er&&(simD f1&&(simD f2&&(Nat.beq k (cs.length+1)&&(Nat.ble k 100&&(inL (if i<14 then l1 else l2) (.str s)&&(cs.all (inL (if i<14 then l1 else l2))))))))
 | _=>false
theorem f213(n:Nat):((List.range 40).all fun(i:Nat)=>fOk i (cl (n+3) 213 [.int .i64 ((i+1:Nat):Int)]))=true:=by kernel_rfl
theorem inL_ex{l:List (List UInt8)}:∀{cs:List D},cs.all (inL l)=true→∃L:List (List UInt8),cs=(L.map iC).flatten∧(∀s∈L,s∈l)∧L.length=cs.length
 | [],_=>⟨[],rfl,fun s hs=>by simp at hs,rfl⟩
 | d::cs,h=>by
  simp only[List.all_cons,bE]at h;obtain⟨L,h1,h2,h3⟩:=inL_ex h.2;have hd:=h.1;unfold inL at hd;split at hd
  ·rename_i s;exact⟨s::L,by rw[h1];rfl,fun x hx=>by rcases bL.1 hx with rfl|hx;(exact List.contains_iff_mem.1 hd);exact h2 x hx,by rw[aU,aU,h3]⟩
  ·cases hd
structure PrD (i:Nat) (l:List D) (L:List (List UInt8)):Prop where
 ex:∃nm q er f1 f2,l=[.str nm,q,er,f1,f2]∧Sl 1 iC L q∧simD er=true∧simD f1=true∧simD f2=true
 mem:∀s∈L,s∈(if i<14 then l1 else l2)
 pos:0<L.length
 lt:L.length<4294967296
theorem c213(n:Nat){i:Nat}(hi:i<40):∃l L fl,cl (n+3) 213 [.int .i64 ((i+1:Nat):Int)]=some (.tup [.agg l,.int .i64 0],fl)∧PrD i l L:=by
 have h:=f213 n;rw[cE]at h;have h:=h i (List.mem_range.2 hi);unfold fOk at h;split at h
 ·rename_i nm ex k s cs er f1 f2 fl hx;simp only[bE,Nat.beq_eq,Nat.ble_eq]at h;obtain⟨g1,g2,g3,g4,g7,g5,g6⟩:=h;obtain⟨L,h1,h2,h3⟩:=inL_ex (cs:=.str s::cs) (l:=if i<14 then l1 else l2) (by simp only[List.all_cons,bE];exact⟨g5,g6⟩)
  refine⟨_,L,fl,hx,⟨nm,_,er,f1,f2,rfl,⟨fun r hr=>?_,.inr ⟨ex,?_⟩⟩,g1,g2,g3⟩,h2,by rw[h3];simp,?_⟩
  ·obtain⟨x,_,rfl⟩:=cQ.1 hr;rfl
  ·rw[fA,h3,←h1,g4,aU]
  ·rw[h3,aU,←g4];omega
 ·cases h
theorem len1:∀s∈l1,s.length=4:=by decide
theorem len2:∀s∈l2,s.length=6:=by decide
theorem quo46:jY .quo (.int .i64 4) (.int .i64 2)=some (.int .i64 2)∧jY .quo (.int .i64 6) (.int .i64 2)=some (.int .i64 3):=⟨rfl,rfl⟩
def arN(i:Nat):Nat:=if i<14 then 1 else 2
theorem c214(n:Nat){i:Nat}{l:List D}{L:List (List UInt8)}(h:PrD i l L):cl n 214 [.agg l]=some (.int .i64 (arN i:Nat),true):=by
 obtain⟨nm,q,er,f1,f2,rfl,hq,g1,g2,g3⟩:=h.ex;have h0:0<L.length:=h.pos;have hm:=h.mem _ (cB h0);rw[cK (A:=A214) rfl n _ rfl,show A214.body=B214 from rfl]
 simp only[B214,Ab.abq];have hia:=hq.ia1 h0 (k:=.i64);have hat:=hq.at1 h0;rw[show((0:Nat):Int)=0 from rfl]at hia
 by_cases hi:i<14
 ·rw[aH hi]at hm;have hl:=len1 _ hm;have hc4:((4:Nat):Int)=4:=rfl;have hc6:((6:Nat):Int)=6:=rfl;simp only[z0,seval,hc4,hc6,hq.nag,jW g1,jW g2,jW g3,hia,hat,iC,hl,quo46,show dJ .i64 1=1 from rfl,arN,aH hi,A214]
  rfl
 ·rw[aD hi]at hm;have hl:=len2 _ hm;have hc4:((4:Nat):Int)=4:=rfl;have hc6:((6:Nat):Int)=6:=rfl;simp only[z0,seval,hc4,hc6,hq.nag,jW g1,jW g2,jW g3,hia,hat,iC,hl,quo46,show dJ .i64 2=2 from rfl,arN,aD hi,A214]
  rfl
def kD(K:List (Int×Int)):D:=.sl false K.length (K.map fun p=>.int .i64 p.1)
def rD(K:List (Int×Int)):D:=.sl false K.length (K.map fun p=>.int .i64 p.2)
theorem kD_len(K:List (Int×Int)):lenD false (kD K)=some K.length∧lenD false (rD K)=some K.length:=⟨rfl,rfl⟩
theorem kD_fz(K:List (Int×Int))(k:Nat)(s:St):frz false (k+1) s (kD K)=some (kD K)∧frz false (k+1) s (rD K)=some (rD K):=⟨rfl,rfl⟩
theorem c215K(n:Nat){i:Nat}{s:List UInt8}(hs:s∈(if i<14 then l1 else l2)){K:List (Int×Int)}(hl:K.length=arN i)(hK:∀p∈K,KR p.1 p.2):∃k' r' a b,cl (n+1) 215 [.str s,kD K,rD K]=some (.tup [.int .i64 k',.int .i64 r',.bool a,.bool b],true)∧(a=true→b=true→0≤r'∧r'≤2):=by
 unfold arN at hl;by_cases hi:i<14
 ·rw[aH hi]at hl hs
  match K,hl with
  | [(k,r)],_=>exact c215 n hs (hK _ (bH ..))
 ·rw[aD hi]at hl hs
  match K,hl with
  | [(k,r),(k2,r2)],_=>exact c215b n hs (hK _ (bH ..)) (hK _ (bG _ (bH ..)))
theorem c166(n:Nat)(p:Int){K:List (Int×Int)}(hl:K.length<1000)(hK:∀p∈K,KR p.1 p.2):
  ∃k r e,cl (n+4) 166 [.int .i64 p,kD K,rD K]=some (.tup [.int .i64 k,.int .i64 r,.int .i64 e],true)∧(e=0→(0≤r∧r≤2)∧1≤p∧p≤40):=by
 rw[cK (A:=A166) rfl (n+4) _ rfl,show A166.body=B166 from rfl]
 simp only[B166,Ab.abq];by_cases hp:p<1∨40<p
 ·refine⟨0,0,2,?_,fun h=>by omega⟩
  simp only[z0,seval,aF (f:=213) rfl,aQ,c213e (n+3) hp,D.pures,D.pure,Int.reduceEq,nb,A166];rfl
 obtain⟨i,hi,rfl⟩:∃i:Nat,i<40∧p=((i+1:Nat):Int):=⟨(p-1).toNat,by omega,by omega⟩
 obtain⟨l,L,fl,h213,hP⟩:=c213 n hi;have h214:=c214 (n+3) hP;obtain⟨nm,q,er,f1,f2,rfl,hq,g1,g2,g3⟩:=hP.ex;have fz1:=simD_fz g1;have fz2:=simD_fz g2;have fz3:=simD_fz g3;have hlt:=hP.lt;by_cases hm:K.length=arN i
 ·simp only[z0,seval,aF (f:=213) rfl,aQ,h213,D.pures,D.pure,Bool.or_true,nb,aF (f:=214) rfl,h214,hq.nag,jW g1,jW g2,jW g3,hq.fz,fz1,fz2,fz3,(kD_len K).1,(kD_len K).2,hm,hq.len];generalize hz:zloop KK _ _=rl
  refine zrange rl hz L.length (fQ (by omega)) (by omega) (fun _ t s c=>tget t 37=q∧tget t 1=kD K∧tget t 2=rD K∧∃v:Int,tget t 8 = .int .i64 v∧v≠0) (by decide) (by simp[aE]) (by simp[aE]) (by simp[aE]) ?_ ?_
  ·rintro j t s c hj ⟨q37,q1,q2,v,q8,hv⟩ hti htn;obtain⟨k',r',a,b,h215,hr'⟩:=c215K (n+2) (hP.mem _ (cB hj)) hm hK;cases a
   ·simp only[z0,seval,q37,q1,q2,q8,hti,htn,hq.ia1 hj,hq.at1 hj,iC,aF (f:=215) rfl,aQ,(kD_fz K 19 s).1,(kD_fz K 19 s).2,h215,A166];exact⟨trivial,trivial,trivial,.inr (.inr trivial),nofun,nofun,trivial,trivial,trivial,v,rfl,hv⟩
   ·cases b
    ·simp only[z0,seval,q37,q1,q2,q8,hti,htn,hq.ia1 hj,hq.at1 hj,iC,aF (f:=215) rfl,aQ,(kD_fz K 19 s).1,(kD_fz K 19 s).2,h215,A166];exact⟨trivial,trivial,trivial,.inr (.inr trivial),nofun,nofun,trivial,trivial,trivial,22,rfl,by decide⟩
    ·simp only[z0,seval,q37,q1,q2,q8,hti,htn,hq.ia1 hj,hq.at1 hj,iC,aF (f:=215) rfl,aQ,(kD_fz K 19 s).1,(kD_fz K 19 s).2,h215,A166];exact⟨_,_,_,rfl,fun _=>⟨hr' rfl rfl,by omega,by omega⟩⟩
  ·rintro t s c ⟨q37,q1,q2,v,q8,hv⟩ hti htn;simp only[z0,seval,q8,A166];exact⟨_,_,_,rfl,fun h=>absurd h hv⟩
 ·simp only[z0,seval,aF (f:=213) rfl,aQ,h213,D.pures,D.pure,Bool.or_true,nb,aF (f:=214) rfl,h214,hq.nag,jW g1,jW g2,jW g3,hq.fz,fz1,fz2,fz3,(kD_len K).1,(kD_len K).2,hq.len,aK (show ¬((K.length:Int)=(arN i:Nat)) from fun h=>hm (Int.ofNat_inj.1 h)),A166]
  exact⟨_,_,_,rfl,fun h=>by omega⟩
def tabR:List D:=match cl 1 167 [] with|some (.agg l,_)=>l|_=>[]
theorem c167(n:Nat):cl (n+1) 167 []=some (.agg tabR,true):=by kernel_rfl
theorem tabR_len:tabR.length=41:=by kernel_rfl
def ruF:List Nat:=[216,217,218,219,220,221,222,223,224,225,226,227,228,229,230]
def isRu(d:Option D):Bool:=match d with
 | some (.fn (.func f) [] [])=>ruF.contains f
 | _=>false
theorem tabR_at:(List.range 40).all (fun i=>isRu tabR[i+1]?)=true:=by kernel_rfl
theorem ru_ps:∀f∈ruF,ps f=true:=by decide
theorem tabR_fn{i:Nat}(hi:i<40):∃f∈ruF,tabR[i+1]?=some (.fn (.func f) [] []):=by
 have h:=tabR_at;rw[cE]at h;have h:=h i (List.mem_range.2 hi);unfold isRu at h;split at h
 ·rename_i f hf;exact⟨f,List.contains_iff_mem.1 h,hf⟩
 ·cases h
theorem appN(t:Tm)(s:St)(c nm ty ty':Nat)(dd:List (D×List D))(r:Option Nat)(v:D):nG ⟨t,sadd s nm (.fix ty' [v]),c,dd,r⟩ 1 8 ty .nils (.ms nm 0 1 1 1)=some (.gs c 0 1 1,⟨t,sadd (sadd s nm (.fix ty' [v])) c (.grow ty [v]),c+1,dd,r⟩):=by
 unfold nG;simp only[cZ,aW,↓reduceIte];rfl
def tlC(t:Tl):List D:=tyC (tl t)
def RuRes(m:Nat)(x:Option (D×Bool)):Prop:=∃k r p q z w c e:Int,x=some (.tup [.agg [.int .i64 k,.int .i64 r,.int .i64 p,.int .i64 q,.int .i64 z,.int .i64 w,.int .i64 c],.int .i64 e],true)∧(e=0→Rg m w∧Rg m c)
def apG(a b:Option Blk)(x:AS)(m nm:Nat):Option (D×AS):=match a,b with
 | some (.grow 4 [u]),some (.fix _ [.int k v])=>some (.gs x.c 0 1 2,⟨x.t,sadd (sdel x.s m) x.c (.grow 4 [u,.int k v]),x.c+1,x.d,x.r⟩)
 | _,_=>nG x 1 8 4 (.gs m 0 1 1) (.ms nm 0 1 1 1)
theorem appG(x:AS)(m nm:Nat):nG x 1 8 4 (.gs m 0 1 1) (.ms nm 0 1 1 1)=apG (sget x.s m) (sget x.s nm) x m nm:=by
 unfold apG;split
 ·rename_i h1 h2;unfold nG;simp only[cZ,h2,h1];rfl
 ·rfl
theorem apG_eq(u:D)(ty:Nat)(k:IntKind)(v:Int)(x:AS)(m nm:Nat):apG (some (.grow 4 [u])) (some (.fix ty [.int k v])) x m nm=some (.gs x.c 0 1 2,⟨x.t,sadd (sdel x.s m) x.c (.grow 4 [u,.int k v]),x.c+1,x.d,x.r⟩):=rfl
def ruQ(g:Nat×Nat×Nat×Nat×Nat):D:=ruD (g.1:Nat) (g.2.1:Nat) (g.2.2.1:Nat) (g.2.2.2.1:Nat) (g.2.2.2.2:Nat)
section
variable (n:Nat) {ss:List (List UInt8)} {us:List Nat} {d e:D} (h:Lt ss us d e) (a b:Tl) {bot:Nat} (hb:bot<us.length) (ha:a.ok us.length) (hb':b.ok us.length)
include h hb ha hb'
theorem x216:cl (n+5) 216 [.agg (lkC d e (tl a) (tl b) bot)]=some (ruQ (a.x,a.y,jF us bot [a.z,b.z],jF us bot [a.z,b.z],cJ us bot a b),true):=by
 have h275:=fun p q z w=>c275 n h a b hb ha hb' p q z w
 have h276:=c276 (n+2) h a b hb ha hb';have h277:=c277 (n+1) h a b hb ha hb';have h280:=c280 (n+2) h a b hb ha hb';have ha9:=c279 (n+2) h a b hb ha hb' a ha;have hb9:=c279 (n+2) h a b hb ha hb' b hb';have hsa:=h.jF hb (mem2 ha.1 ha.2.1);have hsb:=h.jF hb (mem2 hb'.1 hb'.2.1);have hcJ:cJ us bot a b<us.length:=h.jF hb (mem2 hsa hsb);rw[cK (A:=A216) rfl (n+5) _ rfl,show A216.body=B216 from rfl]
 simp only[B216,Ab.abq];unfold lkC tl tyC at *
 simp only[z0,seval,h.d.nag,h.e.nag,eG,cX,AOp.kd,zop,tks,cC,dW,cT,eC,eQ,fL,b2,i20,dU,bQ,aO,aF (f:=275) rfl,aF (f:=276) rfl,aF (f:=277) rfl,aF (f:=278) rfl,aF (f:=279) rfl,aF (f:=280) rfl,aQ,h.d.fz,h.e.fz,h275,h276,h277,h280,ha9,hb9,iQ,Nat.reduceMul,fF,Nat.reduceAdd,Nat.reduceLeDiff,aJ,aV,ruD,A216]
 try rfl
theorem x217:cl (n+5) 217 [.agg (lkC d e (tl a) (tl b) bot)]=some (ruQ (a.x,a.y,jF us bot [a.z,b.z],bot,cJ us bot a b),true):=by
 have h275:=fun p q z w=>c275 n h a b hb ha hb' p q z w
 have h276:=c276 (n+2) h a b hb ha hb';have h277:=c277 (n+1) h a b hb ha hb';have h280:=c280 (n+2) h a b hb ha hb';have ha9:=c279 (n+2) h a b hb ha hb' a ha;have hb9:=c279 (n+2) h a b hb ha hb' b hb';have hsa:=h.jF hb (mem2 ha.1 ha.2.1);have hsb:=h.jF hb (mem2 hb'.1 hb'.2.1);have hcJ:cJ us bot a b<us.length:=h.jF hb (mem2 hsa hsb);rw[cK (A:=A217) rfl (n+5) _ rfl,show A217.body=B217 from rfl]
 simp only[B217,Ab.abq];unfold lkC tl tyC at *
 simp only[z0,seval,h.d.nag,h.e.nag,eG,cX,AOp.kd,zop,tks,cC,dW,cT,eC,eQ,fL,b2,i20,dU,bQ,aO,aF (f:=275) rfl,aF (f:=276) rfl,aF (f:=277) rfl,aF (f:=278) rfl,aF (f:=279) rfl,aF (f:=280) rfl,aQ,h.d.fz,h.e.fz,h275,h276,h277,h280,ha9,hb9,iQ,Nat.reduceMul,fF,Nat.reduceAdd,Nat.reduceLeDiff,aJ,aV,ruD,A217]
 try rfl
theorem x218:cl (n+5) 218 [.agg (lkC d e (tl a) (tl b) bot)]=some (ruQ (bot,bot,cJ us bot a b,bot,cJ us bot a b),true):=by
 have h275:=fun p q z w=>c275 n h a b hb ha hb' p q z w
 have h276:=c276 (n+2) h a b hb ha hb';have h277:=c277 (n+1) h a b hb ha hb';have h280:=c280 (n+2) h a b hb ha hb';have ha9:=c279 (n+2) h a b hb ha hb' a ha;have hb9:=c279 (n+2) h a b hb ha hb' b hb';have hsa:=h.jF hb (mem2 ha.1 ha.2.1);have hsb:=h.jF hb (mem2 hb'.1 hb'.2.1);have hcJ:cJ us bot a b<us.length:=h.jF hb (mem2 hsa hsb);rw[cK (A:=A218) rfl (n+5) _ rfl,show A218.body=B218 from rfl]
 simp only[B218,Ab.abq];unfold lkC tl tyC at *
 simp only[z0,seval,h.d.nag,h.e.nag,eG,cX,AOp.kd,zop,tks,cC,dW,cT,eC,eQ,fL,b2,i20,dU,bQ,aO,aF (f:=275) rfl,aF (f:=276) rfl,aF (f:=277) rfl,aF (f:=278) rfl,aF (f:=279) rfl,aF (f:=280) rfl,aQ,h.d.fz,h.e.fz,h275,h276,h277,h280,ha9,hb9,iQ,Nat.reduceMul,fF,Nat.reduceAdd,Nat.reduceLeDiff,aJ,aV,ruD,A218]
 try rfl
theorem x219:cl (n+5) 219 [.agg (lkC d e (tl a) (tl b) bot)]=some (ruQ (cJ us bot a b,0,jF us bot [a.z,b.z],bot,cJ us bot a b),true):=by
 have h275:=fun p q z w=>c275 n h a b hb ha hb' p q z w
 have h276:=c276 (n+2) h a b hb ha hb';have h277:=c277 (n+1) h a b hb ha hb';have h280:=c280 (n+2) h a b hb ha hb';have ha9:=c279 (n+2) h a b hb ha hb' a ha;have hb9:=c279 (n+2) h a b hb ha hb' b hb';have hsa:=h.jF hb (mem2 ha.1 ha.2.1);have hsb:=h.jF hb (mem2 hb'.1 hb'.2.1);have hcJ:cJ us bot a b<us.length:=h.jF hb (mem2 hsa hsb);rw[cK (A:=A219) rfl (n+5) _ rfl,show A219.body=B219 from rfl]
 simp only[B219,Ab.abq];unfold lkC tl tyC at *
 simp only[z0,seval,h.d.nag,h.e.nag,eG,cX,AOp.kd,zop,tks,cC,dW,cT,eC,eQ,fL,b2,i20,dU,bQ,aO,aF (f:=275) rfl,aF (f:=276) rfl,aF (f:=277) rfl,aF (f:=278) rfl,aF (f:=279) rfl,aF (f:=280) rfl,aQ,h.d.fz,h.e.fz,h275,h276,h277,h280,ha9,hb9,iQ,Nat.reduceMul,fF,Nat.reduceAdd,Nat.reduceLeDiff,aJ,aV,ruD,A219]
 try rfl
theorem x220:cl (n+5) 220 [.agg (lkC d e (tl a) (tl b) bot)]=some (ruQ (a.y,a.x,jF us bot [a.z,b.z],bot,cJ us bot a b),true):=by
 have h275:=fun p q z w=>c275 n h a b hb ha hb' p q z w
 have h276:=c276 (n+2) h a b hb ha hb';have h277:=c277 (n+1) h a b hb ha hb';have h280:=c280 (n+2) h a b hb ha hb';have ha9:=c279 (n+2) h a b hb ha hb' a ha;have hb9:=c279 (n+2) h a b hb ha hb' b hb';have hsa:=h.jF hb (mem2 ha.1 ha.2.1);have hsb:=h.jF hb (mem2 hb'.1 hb'.2.1);have hcJ:cJ us bot a b<us.length:=h.jF hb (mem2 hsa hsb);rw[cK (A:=A220) rfl (n+5) _ rfl,show A220.body=B220 from rfl]
 simp only[B220,Ab.abq];unfold lkC tl tyC at *
 simp only[z0,seval,h.d.nag,h.e.nag,eG,cX,AOp.kd,zop,tks,cC,dW,cT,eC,eQ,fL,b2,i20,dU,bQ,aO,aF (f:=275) rfl,aF (f:=276) rfl,aF (f:=277) rfl,aF (f:=278) rfl,aF (f:=279) rfl,aF (f:=280) rfl,aQ,h.d.fz,h.e.fz,h275,h276,h277,h280,ha9,hb9,iQ,Nat.reduceMul,fF,Nat.reduceAdd,Nat.reduceLeDiff,aJ,aV,ruD,A220]
 try rfl
theorem x222:cl (n+5) 222 [.agg (lkC d e (tl a) (tl b) bot)]=some (ruQ (a.x,a.y,jF us bot [a.z,b.z],cJ us bot a b,cJ us bot a b),true):=by
 have h275:=fun p q z w=>c275 n h a b hb ha hb' p q z w
 have h276:=c276 (n+2) h a b hb ha hb';have h277:=c277 (n+1) h a b hb ha hb';have h280:=c280 (n+2) h a b hb ha hb';have ha9:=c279 (n+2) h a b hb ha hb' a ha;have hb9:=c279 (n+2) h a b hb ha hb' b hb';have hsa:=h.jF hb (mem2 ha.1 ha.2.1);have hsb:=h.jF hb (mem2 hb'.1 hb'.2.1);have hcJ:cJ us bot a b<us.length:=h.jF hb (mem2 hsa hsb);rw[cK (A:=A222) rfl (n+5) _ rfl,show A222.body=B222 from rfl]
 simp only[B222,Ab.abq];unfold lkC tl tyC at *
 simp only[z0,seval,h.d.nag,h.e.nag,eG,cX,AOp.kd,zop,tks,cC,dW,cT,eC,eQ,fL,b2,i20,dU,bQ,aO,aF (f:=275) rfl,aF (f:=276) rfl,aF (f:=277) rfl,aF (f:=278) rfl,aF (f:=279) rfl,aF (f:=280) rfl,aQ,h.d.fz,h.e.fz,h275,h276,h277,h280,ha9,hb9,iQ,Nat.reduceMul,fF,Nat.reduceAdd,Nat.reduceLeDiff,aJ,aV,ruD,A222]
 try rfl
theorem x223:cl (n+5) 223 [.agg (lkC d e (tl a) (tl b) bot)]=some (ruQ (a.x,a.y,cJ us bot a b,bot,cJ us bot a b),true):=by
 have h275:=fun p q z w=>c275 n h a b hb ha hb' p q z w
 have h276:=c276 (n+2) h a b hb ha hb';have h277:=c277 (n+1) h a b hb ha hb';have h280:=c280 (n+2) h a b hb ha hb';have ha9:=c279 (n+2) h a b hb ha hb' a ha;have hb9:=c279 (n+2) h a b hb ha hb' b hb';have hsa:=h.jF hb (mem2 ha.1 ha.2.1);have hsb:=h.jF hb (mem2 hb'.1 hb'.2.1);have hcJ:cJ us bot a b<us.length:=h.jF hb (mem2 hsa hsb);rw[cK (A:=A223) rfl (n+5) _ rfl,show A223.body=B223 from rfl]
 simp only[B223,Ab.abq];unfold lkC tl tyC at *
 simp only[z0,seval,h.d.nag,h.e.nag,eG,cX,AOp.kd,zop,tks,cC,dW,cT,eC,eQ,fL,b2,i20,dU,bQ,aO,aF (f:=275) rfl,aF (f:=276) rfl,aF (f:=277) rfl,aF (f:=278) rfl,aF (f:=279) rfl,aF (f:=280) rfl,aQ,h.d.fz,h.e.fz,h275,h276,h277,h280,ha9,hb9,iQ,Nat.reduceMul,fF,Nat.reduceAdd,Nat.reduceLeDiff,aJ,aV,ruD,A223]
 try rfl
theorem x224:cl (n+5) 224 [.agg (lkC d e (tl a) (tl b) bot)]=some (ruQ (jF us bot [a.z,jF us bot [b.x,b.y]],0,jF us bot [a.z,b.z],bot,cJ us bot a b),true):=by
 have h275:=fun p q z w=>c275 n h a b hb ha hb' p q z w
 have h276:=c276 (n+2) h a b hb ha hb';have h277:=c277 (n+1) h a b hb ha hb';have h280:=c280 (n+2) h a b hb ha hb';have ha9:=c279 (n+2) h a b hb ha hb' a ha;have hb9:=c279 (n+2) h a b hb ha hb' b hb';have hsa:=h.jF hb (mem2 ha.1 ha.2.1);have hsb:=h.jF hb (mem2 hb'.1 hb'.2.1);have hcJ:cJ us bot a b<us.length:=h.jF hb (mem2 hsa hsb)
 have h278:=c278 (n+3) h (tl a) (tl b) hb (pI true a.z (jF us bot [b.x,b.y])) (mem2 ha.2.2 hsb) (show 2<9223372036854775807 by decide)
 rw[cK (A:=A224) rfl (n+5) _ rfl,show A224.body=B224 from rfl]
 simp only[B224,Ab.abq];unfold lkC tl tyC at *
 simp only[z0,seval,h.d.nag,h.e.nag,eG,cX,AOp.kd,zop,tks,cC,dW,cT,eC,eQ,fL,b2,i20,dU,bQ,aO,aF (f:=275) rfl,aF (f:=276) rfl,aF (f:=277) rfl,aF (f:=278) rfl,aF (f:=279) rfl,aF (f:=280) rfl,aQ,h.d.fz,h.e.fz,h275,h276,h277,h280,ha9,hb9,iQ,Nat.reduceMul,fF,Nat.reduceAdd,Nat.reduceLeDiff,aJ,aV,h278,ruD,A224]
 try rfl
theorem x226:cl (n+5) 226 [.agg (lkC d e (tl a) (tl b) bot)]=some (ruQ (jF us bot [a.x,b.x],jF us bot [a.y,b.y],jF us bot [a.z,b.z],cJ us bot a b,cJ us bot a b),true):=by
 have h275:=fun p q z w=>c275 n h a b hb ha hb' p q z w
 have h276:=c276 (n+2) h a b hb ha hb';have h277:=c277 (n+1) h a b hb ha hb';have h280:=c280 (n+2) h a b hb ha hb';have ha9:=c279 (n+2) h a b hb ha hb' a ha;have hb9:=c279 (n+2) h a b hb ha hb' b hb';have hsa:=h.jF hb (mem2 ha.1 ha.2.1);have hsb:=h.jF hb (mem2 hb'.1 hb'.2.1);have hcJ:cJ us bot a b<us.length:=h.jF hb (mem2 hsa hsb);rw[cK (A:=A226) rfl (n+5) _ rfl,show A226.body=B226 from rfl]
 simp only[B226,Ab.abq];unfold lkC tl tyC at *
 simp only[z0,seval,h.d.nag,h.e.nag,eG,cX,AOp.kd,zop,tks,cC,dW,cT,eC,eQ,fL,b2,i20,dU,bQ,aO,aF (f:=275) rfl,aF (f:=276) rfl,aF (f:=277) rfl,aF (f:=278) rfl,aF (f:=279) rfl,aF (f:=280) rfl,aQ,h.d.fz,h.e.fz,h275,h276,h277,h280,ha9,hb9,iQ,Nat.reduceMul,fF,Nat.reduceAdd,Nat.reduceLeDiff,aJ,aV,ruD,A226]
 try rfl
theorem x227:cl (n+5) 227 [.agg (lkC d e (tl a) (tl b) bot)]=some (ruQ (b.x,b.y,jF us bot [a.z,b.z],jF us bot [jF us bot [a.x,a.y],b.z],cJ us bot a b),true):=by
 have h275:=fun p q z w=>c275 n h a b hb ha hb' p q z w
 have h276:=c276 (n+2) h a b hb ha hb';have h277:=c277 (n+1) h a b hb ha hb';have h280:=c280 (n+2) h a b hb ha hb';have ha9:=c279 (n+2) h a b hb ha hb' a ha;have hb9:=c279 (n+2) h a b hb ha hb' b hb';have hsa:=h.jF hb (mem2 ha.1 ha.2.1);have hsb:=h.jF hb (mem2 hb'.1 hb'.2.1);have hcJ:cJ us bot a b<us.length:=h.jF hb (mem2 hsa hsb)
 have h278:=c278 (n+3) h (tl a) (tl b) hb (pI true (jF us bot [a.x,a.y]) b.z) (mem2 hsa hb'.2.2) (show 2<9223372036854775807 by decide)
 rw[cK (A:=A227) rfl (n+5) _ rfl,show A227.body=B227 from rfl]
 simp only[B227,Ab.abq];unfold lkC tl tyC at *
 simp only[z0,seval,h.d.nag,h.e.nag,eG,cX,AOp.kd,zop,tks,cC,dW,cT,eC,eQ,fL,b2,i20,dU,bQ,aO,aF (f:=275) rfl,aF (f:=276) rfl,aF (f:=277) rfl,aF (f:=278) rfl,aF (f:=279) rfl,aF (f:=280) rfl,aQ,h.d.fz,h.e.fz,h275,h276,h277,h280,ha9,hb9,iQ,Nat.reduceMul,fF,Nat.reduceAdd,Nat.reduceLeDiff,aJ,aV,h278,ruD,A227]
 try rfl
theorem x228:cl (n+5) 228 [.agg (lkC d e (tl a) (tl b) bot)]=some (ruQ (jF us bot [a.z,jF us bot [b.x,b.y]],0,jF us bot [a.z,b.z],cJ us bot a b,cJ us bot a b),true):=by
 have h275:=fun p q z w=>c275 n h a b hb ha hb' p q z w
 have h276:=c276 (n+2) h a b hb ha hb';have h277:=c277 (n+1) h a b hb ha hb';have h280:=c280 (n+2) h a b hb ha hb';have ha9:=c279 (n+2) h a b hb ha hb' a ha;have hb9:=c279 (n+2) h a b hb ha hb' b hb';have hsa:=h.jF hb (mem2 ha.1 ha.2.1);have hsb:=h.jF hb (mem2 hb'.1 hb'.2.1);have hcJ:cJ us bot a b<us.length:=h.jF hb (mem2 hsa hsb)
 have h278:=c278 (n+3) h (tl a) (tl b) hb (pI true a.z (jF us bot [b.x,b.y])) (mem2 ha.2.2 hsb) (show 2<9223372036854775807 by decide)
 rw[cK (A:=A228) rfl (n+5) _ rfl,show A228.body=B228 from rfl]
 simp only[B228,Ab.abq];unfold lkC tl tyC at *
 simp only[z0,seval,h.d.nag,h.e.nag,eG,cX,AOp.kd,zop,tks,cC,dW,cT,eC,eQ,fL,b2,i20,dU,bQ,aO,aF (f:=275) rfl,aF (f:=276) rfl,aF (f:=277) rfl,aF (f:=278) rfl,aF (f:=279) rfl,aF (f:=280) rfl,aQ,h.d.fz,h.e.fz,h275,h276,h277,h280,ha9,hb9,iQ,Nat.reduceMul,fF,Nat.reduceAdd,Nat.reduceLeDiff,aJ,aV,h278,ruD,A228]
 try rfl
theorem x221:cl (n+5) 221 [.agg (lkC d e (tl a) (tl b) bot)]=some (ruQ (a.z,a.z,jF us bot [a.z,b.z],a.z,jF us bot [cJ us bot a b,a.z]),true):=by
 have h275:=fun p q z w=>c275 n h a b hb ha hb' p q z w
 have h276:=c276 (n+2) h a b hb ha hb';have h277:=c277 (n+1) h a b hb ha hb';have h280:=c280 (n+2) h a b hb ha hb';have ha9:=c279 (n+2) h a b hb ha hb' a ha;have hb9:=c279 (n+2) h a b hb ha hb' b hb';have hsa:=h.jF hb (mem2 ha.1 ha.2.1);have hsb:=h.jF hb (mem2 hb'.1 hb'.2.1);have hcJ:cJ us bot a b<us.length:=h.jF hb (mem2 hsa hsb)
 have h278:=c278 (n+3) h (tl a) (tl b) hb (pI true (cJ us bot a b) a.z) (mem2 hcJ ha.2.2) (show 2<9223372036854775807 by decide)
 rw[cK (A:=A221) rfl (n+5) _ rfl,show A221.body=B221 from rfl]
 simp only[B221,Ab.abq];unfold lkC tl tyC at *
 simp only[z0,seval,h.d.nag,h.e.nag,eG,cX,AOp.kd,zop,tks,cC,dW,cT,eC,eQ,fL,b2,i20,dU,bQ,aO,aF (f:=275) rfl,aF (f:=276) rfl,aF (f:=277) rfl,aF (f:=278) rfl,aF (f:=279) rfl,aF (f:=280) rfl,aQ,h.d.fz,h.e.fz,h275,h276,h277,h280,ha9,hb9,iQ,Nat.reduceMul,fF,Nat.reduceAdd,Nat.reduceLeDiff,aJ,aV,h278,ruD,A221]
 try rfl
theorem x225:cl (n+6) 225 [.agg (lkC d e (tl a) (tl b) bot)]=some (ruQ (a.z,a.z,jF us bot [a.z,b.z],jF us bot [a.z,jF us bot [b.x,b.y]],jF us bot [cJ us bot a b,a.z]),true):=by
 have h1:=x221 n h a b hb ha hb';have hsb:=h.jF hb (mem2 hb'.1 hb'.2.1);have hb9:=c279 (n+3) h a b hb ha hb' b hb';have h278:=c278 (n+4) h (tl a) (tl b) hb (pI true a.z (jF us bot [b.x,b.y])) (mem2 ha.2.2 hsb) (show 2<9223372036854775807 by decide)
 unfold ruQ at *;rw[cK (A:=A225) rfl (n+6) _ rfl,show A225.body=B225 from rfl]
 simp only[B225,Ab.abq];unfold lkC tl tyC at *;unfold ruD at *
 simp only[z0,seval,h.d.nag,h.e.nag,eG,cX,AOp.kd,zop,tks,cC,dW,cT,eC,eQ,fL,b2,i20,dU,bQ,aO,aF (f:=275) rfl,aF (f:=276) rfl,aF (f:=277) rfl,aF (f:=278) rfl,aF (f:=279) rfl,aF (f:=280) rfl,aQ,h.d.fz,h.e.fz,hb9,iQ,Nat.reduceMul,fF,Nat.reduceAdd,Nat.reduceLeDiff,aJ,aV,aF (f:=221) rfl,h1,h278,A225]
 try rfl
theorem x229_1(e1:b.r<a.r):cl (n+5) 229 [.agg (lkC d e (tl a) (tl b) bot)]=some (ruQ (a.x,a.y,jF us bot [a.z,b.z],bot,cJ us bot a b),true):=by
 have h275:=fun p q z w=>c275 n h a b hb ha hb' p q z w
 have h276:=c276 (n+2) h a b hb ha hb';have h277:=c277 (n+1) h a b hb ha hb';have h280:=c280 (n+2) h a b hb ha hb';have ha9:=c279 (n+2) h a b hb ha hb' a ha;have hb9:=c279 (n+2) h a b hb ha hb' b hb';have hsa:=h.jF hb (mem2 ha.1 ha.2.1);have hsb:=h.jF hb (mem2 hb'.1 hb'.2.1);have hcJ:cJ us bot a b<us.length:=h.jF hb (mem2 hsa hsb);rw[cK (A:=A229) rfl (n+5) _ rfl,show A229.body=B229 from rfl]
 simp only[B229,Ab.abq];unfold lkC tl tyC at *
 simp only[z0,seval,h.d.nag,h.e.nag,eG,cX,AOp.kd,zop,tks,cC,dW,cT,eC,eQ,fL,b2,i20,dU,bQ,aO,aF (f:=275) rfl,aF (f:=276) rfl,aF (f:=277) rfl,aF (f:=278) rfl,aF (f:=279) rfl,aF (f:=280) rfl,aQ,h.d.fz,h.e.fz,h275,h276,h277,h280,ha9,hb9,iQ,Nat.reduceMul,fF,Nat.reduceAdd,Nat.reduceLeDiff,aJ,aV,bD e1,ruD,A229]
 try rfl
theorem x229_2(e1:¬b.r<a.r)(e2:a.r<b.r):cl (n+5) 229 [.agg (lkC d e (tl a) (tl b) bot)]=some (ruQ (b.x,b.y,jF us bot [a.z,b.z],bot,cJ us bot a b),true):=by
 have h275:=fun p q z w=>c275 n h a b hb ha hb' p q z w
 have h276:=c276 (n+2) h a b hb ha hb';have h277:=c277 (n+1) h a b hb ha hb';have h280:=c280 (n+2) h a b hb ha hb';have ha9:=c279 (n+2) h a b hb ha hb' a ha;have hb9:=c279 (n+2) h a b hb ha hb' b hb';have hsa:=h.jF hb (mem2 ha.1 ha.2.1);have hsb:=h.jF hb (mem2 hb'.1 hb'.2.1);have hcJ:cJ us bot a b<us.length:=h.jF hb (mem2 hsa hsb);rw[cK (A:=A229) rfl (n+5) _ rfl,show A229.body=B229 from rfl]
 simp only[B229,Ab.abq];unfold lkC tl tyC at *
 simp only[z0,seval,h.d.nag,h.e.nag,eG,cX,AOp.kd,zop,tks,cC,dW,cT,eC,eQ,fL,b2,i20,dU,bQ,aO,aF (f:=275) rfl,aF (f:=276) rfl,aF (f:=277) rfl,aF (f:=278) rfl,aF (f:=279) rfl,aF (f:=280) rfl,aQ,h.d.fz,h.e.fz,h275,h276,h277,h280,ha9,hb9,iQ,Nat.reduceMul,fF,Nat.reduceAdd,Nat.reduceLeDiff,aJ,aV,aK e1,bD e2,ruD,A229]
 try rfl
theorem x229_3(e1:¬b.r<a.r)(e2:¬a.r<b.r)(e3:0<a.r):cl (n+5) 229 [.agg (lkC d e (tl a) (tl b) bot)]=some (ruQ (jF us bot [a.x,b.x],jF us bot [a.y,b.y],jF us bot [a.z,b.z],cJ us bot a b,cJ us bot a b),true):=by
 have h275:=fun p q z w=>c275 n h a b hb ha hb' p q z w
 have h276:=c276 (n+2) h a b hb ha hb';have h277:=c277 (n+1) h a b hb ha hb';have h280:=c280 (n+2) h a b hb ha hb';have ha9:=c279 (n+2) h a b hb ha hb' a ha;have hb9:=c279 (n+2) h a b hb ha hb' b hb';have hsa:=h.jF hb (mem2 ha.1 ha.2.1);have hsb:=h.jF hb (mem2 hb'.1 hb'.2.1);have hcJ:cJ us bot a b<us.length:=h.jF hb (mem2 hsa hsb);rw[cK (A:=A229) rfl (n+5) _ rfl,show A229.body=B229 from rfl]
 simp only[B229,Ab.abq];unfold lkC tl tyC at *
 simp only[z0,seval,h.d.nag,h.e.nag,eG,cX,AOp.kd,zop,tks,cC,dW,cT,eC,eQ,fL,b2,i20,dU,bQ,aO,aF (f:=275) rfl,aF (f:=276) rfl,aF (f:=277) rfl,aF (f:=278) rfl,aF (f:=279) rfl,aF (f:=280) rfl,aQ,h.d.fz,h.e.fz,h275,h276,h277,h280,ha9,hb9,iQ,Nat.reduceMul,fF,Nat.reduceAdd,Nat.reduceLeDiff,aJ,aV,aK e1,aK e2,bD e3,ruD,A229]
 try rfl
theorem x229_4(e1:¬b.r<a.r)(e2:¬a.r<b.r)(e3:¬0<a.r):cl (n+5) 229 [.agg (lkC d e (tl a) (tl b) bot)]=some (ruQ (jF us bot [a.x,b.x],jF us bot [a.y,b.y],jF us bot [a.z,b.z],bot,cJ us bot a b),true):=by
 have h275:=fun p q z w=>c275 n h a b hb ha hb' p q z w
 have h276:=c276 (n+2) h a b hb ha hb';have h277:=c277 (n+1) h a b hb ha hb';have h280:=c280 (n+2) h a b hb ha hb';have ha9:=c279 (n+2) h a b hb ha hb' a ha;have hb9:=c279 (n+2) h a b hb ha hb' b hb';have hsa:=h.jF hb (mem2 ha.1 ha.2.1);have hsb:=h.jF hb (mem2 hb'.1 hb'.2.1);have hcJ:cJ us bot a b<us.length:=h.jF hb (mem2 hsa hsb);rw[cK (A:=A229) rfl (n+5) _ rfl,show A229.body=B229 from rfl]
 simp only[B229,Ab.abq];unfold lkC tl tyC at *
 simp only[z0,seval,h.d.nag,h.e.nag,eG,cX,AOp.kd,zop,tks,cC,dW,cT,eC,eQ,fL,b2,i20,dU,bQ,aO,aF (f:=275) rfl,aF (f:=276) rfl,aF (f:=277) rfl,aF (f:=278) rfl,aF (f:=279) rfl,aF (f:=280) rfl,aQ,h.d.fz,h.e.fz,h275,h276,h277,h280,ha9,hb9,iQ,Nat.reduceMul,fF,Nat.reduceAdd,Nat.reduceLeDiff,aJ,aV,aK e1,aK e2,aK e3,ruD,A229]
 try rfl
theorem x230{g:Nat×Nat×Nat×Nat×Nat}(h1:cl (n+5) 229 [.agg (lkC d e (tl a) (tl b) bot)]=some (ruQ g,true)):cl (n+6) 230 [.agg (lkC d e (tl a) (tl b) bot)]=some (ruQ (g.1,g.2.1,g.2.2.1,jF us bot [a.z,b.z],g.2.2.2.2),true):=by
 have h276:=c276 (n+3) h a b hb ha hb';unfold ruQ at *;rw[cK (A:=A230) rfl (n+6) _ rfl,show A230.body=B230 from rfl]
 simp only[B230,Ab.abq];unfold lkC tl at *;unfold ruD at *
 simp only[z0,seval,h.d.nag,h.e.nag,eG,cX,AOp.kd,zop,tks,cC,dW,cT,eC,eQ,fL,b2,i20,dU,bQ,aO,aF (f:=275) rfl,aF (f:=276) rfl,aF (f:=277) rfl,aF (f:=278) rfl,aF (f:=279) rfl,aF (f:=280) rfl,aQ,h.d.fz,h.e.fz,h276,iQ,Nat.reduceMul,fF,Nat.reduceAdd,Nat.reduceLeDiff,aJ,aV,aF (f:=229) rfl,h1,A230]
 try rfl
end
def Le(us:List Nat)(a b:Nat):Prop:=(uM us a).testBit b=true
section
variable {ss:List (List UInt8)} {us:List Nat} {d e:D} (h:Lt ss us d e)
include h
theorem ord_lt:∀a,a<us.length→kP us.length (uM us) a=true:=by
 obtain⟨h1,_,h3⟩:=CHK_ord h.c;rw[h1];exact h3
theorem jm{a b:Nat}(ha:a<us.length)(hb:b<us.length):uM us (J us a b)=uM us a&&&uM us b:=by
 have hj:=(h.j ha hb).1;unfold jH at hj;rcases eR (kL (uM us) a b) (-1) us.length 0 with⟨_,h2⟩|⟨m,r,_,_,h3,_,h4⟩
 ·rw[h2]at hj;omega
 ·rw[h4]at hj;unfold kL at h3;cases hb:Nat.beq (uM us m) (uM us a&&&uM us b) with
  | false=>rw[hb]at h3;cases h3
  | true=>
   rw[hb]at h3;have:(m:Int)=r:=Option.some.inj h3;rw[←aR hb,show m=J us a b by omega]
theorem le_refl{a:Nat}(ha:a<us.length):Le us a a:=(sU (ord_lt h) ha).1
theorem le_trans{a b c:Nat}(ha:a<us.length)(hb:b<us.length)(hc:c<us.length)(h1:Le us a b)(h2:Le us b c):Le us a c:=ord_trans (ord_lt h) ha hb hc h1 h2
theorem le_J{a b:Nat}(ha:a<us.length)(hb:b<us.length):Le us a (J us a b)∧Le us b (J us a b):=by
 have hj:=(h.j ha hb).2;have:=le_refl h hj;unfold Le at this ⊢;rw[jm h ha hb,Nat.testBit_and,bE]at this;exact this
theorem J_le{a b c:Nat}(ha:a<us.length)(hb:b<us.length)(h1:Le us a c)(h2:Le us b c):Le us (J us a b) c:=by
 unfold Le at *;rw[jm h ha hb,Nat.testBit_and,h1,h2];rfl
end
end
end Zv
