/- What Type and Hidden come to, in the program and in the reference. Conditions: none. -/
import Derived.Test.YtnpoohbeicakkaaGreatDoorZAZ
set_option linter.unusedSimpArgs false
set_option linter.unusedVariables false
set_option linter.unusedSectionVars false
set_option maxRecDepth 100000
namespace Zv
open Go
noncomputable section
theorem enc_it:sH 1 itC:=⟨fun _=>rfl,by decide,fun _=>rfl,fun _ _ _ _=>rfl⟩
section
variable (n:Nat) {ss:List (List UInt8)} {us:List Nat} {d e:D} (h:Lt ss us d e)
include h
theorem c80l{L:List Nat}{q:D}(hq:Sl 1 gU L q)(hL:∀x∈L,x<us.length)(hl:L.length<1000):cl (n+6) 80 [.iptr [d,e] 0,q]=some (.int .i64 0,true):=by
 rw[kG 80 A80 B80,B80];have zY:cX [d,e] 0 (some 2)=some (.agg [d,e]):=rfl;have En:=c59 n h.d h.e h.u h.s;rw[h.c]at En;have ld:=h.d.len;rw[←h.l]at ld;simp only[z2,seval,zY,aF 59,aJ,h.d.fz,h.e.fz,En,dV,dJ,aM,eq_self,hq.len];generalize hz:zloop KK _ _=rl
 refine zrange rl hz L.length (dY (by omega)) (by omega) (fun i t s c=>tget t 0 = .iptr [d,e] 0∧tget t 19=q) (by decide) (by simp[aA]) (by simp[aA]) (by simp[aA]) ?_ ?_
 ·rintro i t s c hi ⟨q0,q19⟩ Ag Ah;have hx:=hL _ (bQ hi);have p1:decide (((L[i]:Nat):Int)<0)=false:=aE (by omega)
  have p2:decide (((us.length:Nat):Int)≤(L[i]:Nat))=false:=aE (by omega)
  simp only[z2,seval,Ag,Ah,q0,q19,hq.ia1 hi,hq.at1 hi,gU,aV,p1,p2,ld]
  grind
 ·rintro t s c ⟨q0,q19⟩ Ag Ah;simp only[z2,seval,A80];rfl
variable {a b:Nat} (ha:a<us.length)
include ha
theorem c67(hb:b<us.length):cl (n+7) 67 [.agg [d,e],.int .i64 (a:Nat),.int .i64 (b:Nat)]=some (.tup [.bool ((uM us a).testBit b),.int .i64 0],true):=by
 rw[nY 67 A67 B67,B67];have Yy:∀ex,cl (n+6) 80 [.iptr [d,e] 0,.sl ex 2 [.int .i64 (a:Nat),.int .i64 (b:Nat)]]=some (.int .i64 0,true):=fun ex=>c80l n h (L:=[a,b]) ⟨fun r hr=>by simp at hr;rcases hr with rfl|rfl<;>rfl,.inr ⟨ex,rfl⟩⟩ (by grind) (by show 2<1000;decide)
 have hx:us[a]=uM us a:=(jK ha 0).symm;have h0:∀k:Nat,decide ((0:Int)≤(k:Int))=true:=fun k=>by simp
 simp only[z0,seval,h.d.fz,h.e.fz,aF 80,aJ,Yy,mS,aK,show decide ((0:Int)≠0)=false from rfl,h.e.ia1 ha,h.e.at1 ha,u8C,aV,hx,iC b (kY h.u a),iM b (kY h.u a),qE,A67]
 rfl
theorem c68x(hb:b<us.length):cl (n+1) 68 [.agg [d,e],.int .i64 (a:Nat),.int .i64 (b:Nat)]=some (.bool ((uM us a).testBit b),true):=c68 n h.d.nag h.d.fz h.e h.u ha b (by have:=h.h8;have:=h.l;omega) (c56 n (d:=d) h.d.nag h.e h.u ha b)
end
theorem both_rf(n:Nat){ss:List (List UInt8)}{us:List Nat}{d e v f dx:D}{vs:List Vr}{fs:List Fd}{x:List Nd}(h:In22 ss us d e v f dx vs fs x)(pc ec:Int):
  ∃r z y f1 f2,cl (n+407) 13 [.agg [d,e,v,f],.int .i64 pc,.int .i64 ec,dx]=some (z,f1)∧cl (n+407) 14 [.agg [d,e,v,f],.int .i64 pc,.int .i64 ec,dx]=some (y,f2)∧RfR r z∧RfR r y∧∀p,r = .ok p→p.2.lm.length<1000000∧wT us p.2.lm:=by
 rcases looks_both n h pc ec with⟨a,er,h0,fl,Nh,Aq⟩|⟨p,q,fl,Nh,hs,zU,hb,Aq⟩
 ·exact⟨.bad a er,_,_,_,_,Nh,Aq,⟨rfl,h0⟩,⟨rfl,h0⟩,nofun⟩
 ·exact⟨.ok p,_,_,_,_,Nh,Aq,⟨_,rfl,sites_sl _⟩,⟨_,rfl,hs⟩,fun p' e=>by cases e;exact⟨zU,hb⟩⟩
def tyR:Lo (Tl×Lk)→D
 | .bad a e=>.tup [.agg [.int .i64 0,.int .i64 0,.int .i64 0,.int .i64 0,.int .i64 0],.int .i64 a,.int .i64 e]
 | .ok p=>.tup [.agg [.int .i64 p.1.k,.int .i64 p.1.r,.int .i64 (p.1.x:Nat),.int .i64 (p.1.y:Nat),.int .i64 (p.1.z:Nat)],.int .i64 0,.int .i64 0]
def hidL(us:List Nat)(o:Nat)(l:List (Int×Int)):List Int:=(l.filter fun p=>!(uM us p.2.toNat).testBit o).map Prod.fst
theorem hid_step{us:List Nat}{o i:Nat}{l:List (Int×Int)}(hi:i<l.length):hidL us o (l.take (i+1))=hidL us o (l.take i)++bif (uM us l[i].2.toNat).testBit o then[] else[l[i].1]:=by
 unfold hidL;rw[List.take_succ_eq_append_getElem hi,List.filter_append,List.map_append];cases hb:(uM us l[i].2.toNat).testBit o<;>simp[hb]
theorem hid_len(us:List Nat)(o i:Nat)(l:List (Int×Int)):(hidL us o (l.take i)).length≤l.length:=by
 unfold hidL;rw[dB];exact fZ (List.length_filter_le ..) (by rw[eI];omega)
def HdR(us:List Nat)(o:Nat)(r:Lo (Tl×Lk))(x:D):Prop:=match r with
 | .bad a e=>x = .tup [.nils,.int .i64 e]
 | .ok p=>∃w,x = .tup [w,.int .i64 0]∧Sl 1 itC (hidL us o (fA p.2.lm)) w
section
variable (n:Nat) {ss:List (List UInt8)} {us:List Nat} {d e v f dx:D} {vs:List Vr} {fs:List Fd} {x:List Nd} (hd:Sl 1 fM ss d) (he:Sl 1 u8C us e) (hO:mZ vs fs v f) (hx:Sl 7 bK x dx)
variable {r:Lo (Tl×Lk)} {f1:Bool} {er o:Int}
include hd he hO hx
theorem c65o{low:Nat}{z:D}(Ew:cl (n+407) 43 [.agg [d,e]]=some (e2 (low:Nat) 0,true))(Nh:cl (n+407) 13 [.agg [d,e,v,f],.int .i64 (low:Nat),.int .i64 (low:Nat),dx]=some (z,f1))(hR:RfR r z):∃fl,cl (n+408) 65 [.agg [d,e,v,f],dx]=some (z,fl):=by
 obtain⟨fl',z1,b,c,rfl,Cl,Bz,hp⟩:=rf_fl hR;refine⟨fl',?_⟩;rw[kG 65 A65 B65,B65];unfold e2 at Ew;have Ff:D.pures [.agg [d,e,v,f],.int .i64 (low:Nat),.int .i64 (low:Nat),dx]=true:=by simp[D.pures,D.pure,hd.pure,he.pure,hO.v.pure,hO.f.pure,hx.pure]
 match z1,Bz with
 | [a1,a2,a3,a4,a5,a6,a7,a8],_=>
  have n1:=Cl a1 (by simp);have n2:=Cl a2 (by simp);have n3:=Cl a3 (by simp);have n4:=Cl a4 (by simp);have n5:=Cl a5 (by simp);have n6:=Cl a6 (by simp);have n7:=Cl a7 (by simp);have n8:=Cl a8 (by simp)
  simp only[z0,seval,aF 43,aF 13,aJ,hd.fz,he.fz,hO.v.fz,hO.f.fz,hx.fz,Ew,Nh,Ff,n1,n2,n3,n4,n5,n6,n7,n8,A65];exact hp _ _
theorem c66o{low:Nat}{z:D}(Dj:cl (n+407) 23 [.agg [d,e,v,f]]=some (.int .i64 0,true))(Bf:cl (n+407) 100 [.agg [d,e]]=some (.int .i64 (low:Nat),true))(Aq:cl (n+407) 14 [.agg [d,e,v,f],.int .i64 (low:Nat),.int .i64 (low:Nat),dx]=some (z,f1))(hR:RfR r z):∃fl,cl (n+408) 66 [.agg [d,e,v,f],dx]=some (z,fl):=by
 obtain⟨fl',z1,b,c,rfl,Cl,Bz,hp⟩:=rf_fl hR;refine⟨fl',?_⟩;rw[kG 66 A66 B66,B66];have Ff:D.pures [.agg [d,e,v,f],.int .i64 (low:Nat),.int .i64 (low:Nat),dx]=true:=by simp[D.pures,D.pure,hd.pure,he.pure,hO.v.pure,hO.f.pure,hx.pure]
 match z1,Bz with
 | [a1,a2,a3,a4,a5,a6,a7,a8],_=>
  have n1:=Cl a1 (by simp);have n2:=Cl a2 (by simp);have n3:=Cl a3 (by simp);have n4:=Cl a4 (by simp);have n5:=Cl a5 (by simp);have n6:=Cl a6 (by simp);have n7:=Cl a7 (by simp);have n8:=Cl a8 (by simp)
  simp only[z0,seval,aF 23,aF 100,aF 14,aJ,hd.fz,he.fz,hO.v.fz,hO.f.fz,hx.fz,Dj,Bf,Aq,Ff,n1,n2,n3,n4,n5,n6,n7,n8,A66];exact hp _ _
theorem c66e(Dj:cl (n+407) 23 [.agg [d,e,v,f]]=some (.int .i64 er,true))(h0:er≠0)(Aq:cl (n+407) 14 [.agg [d,e,v,f],.int .i64 0,.int .i64 0,dx]=some (.tup [.agg zl0,.int .i64 0,.int .i64 er],true)):cl (n+408) 66 [.agg [d,e,v,f],dx]=some (.tup [.agg zl0,.int .i64 0,.int .i64 er],true):=by
 rw[kG 66 A66 B66,B66];unfold zl0 at Aq;simp only[z0,seval,aF 23,aF 14,aJ,hd.fz,he.fz,hO.v.fz,hO.f.fz,hx.fz,aE h0,Dj,Aq,A66];rfl
theorem c24e(Bq:cl (n+408) 22 [.agg [d,e,v,f]]=some (.int .i64 er,true))(h0:er≠0):cl (n+409) 24 [.agg [d,e,v,f],dx]=some (tyR (.bad 0 er),true):=by
 rw[kG 24 A24 B24,B24];simp only[z0,seval,aF 22,aJ,hd.fz,he.fz,hO.v.fz,hO.f.fz,aH h0,Bq,A24];rfl
theorem c24o{z:D}(Bq:cl (n+408) 22 [.agg [d,e,v,f]]=some (.int .i64 0,true))(Oa:cl (n+408) 65 [.agg [d,e,v,f],dx]=some (z,f1))(hR:RfR r z):cl (n+409) 24 [.agg [d,e,v,f],dx]=some (tyR r,true):=by
 rw[kG 24 A24 B24,B24];have Ff:D.pures [.agg [d,e,v,f],dx]=true:=by simp[D.pures,D.pure,hd.pure,he.pure,hO.v.pure,hO.f.pure,hx.pure]
 cases r with
 | bad a y=>
  obtain⟨rfl,h0⟩:=hR;unfold zl0 at Oa;simp only[z0,seval,aF 22,aF 65,aJ,hd.fz,he.fz,hO.v.fz,hO.f.fz,hx.fz,Bq,Oa,Ff,A24];rfl
 | ok p=>
  obtain⟨q,rfl,hs⟩:=hR;simp only[z0,seval,aF 22,aF 65,aJ,hd.fz,he.fz,hO.v.fz,hO.f.fz,hx.fz,Bq,Oa,Ff,hs.nag,A24];rfl
theorem c25o{z:D}(Nz:cl (n+408) 66 [.agg [d,e,v,f],dx]=some (z,f1))(hR:RfR r z):cl (n+409) 25 [.agg [d,e,v,f],dx]=some (tyR r,true):=by
 rw[kG 25 A25 B25,B25];have Ff:D.pures [.agg [d,e,v,f],dx]=true:=by simp[D.pures,D.pure,hd.pure,he.pure,hO.v.pure,hO.f.pure,hx.pure]
 cases r with
 | bad a y=>
  obtain⟨rfl,h0⟩:=hR;unfold zl0 at Nz;simp only[z0,seval,aF 66,aJ,hd.fz,he.fz,hO.v.fz,hO.f.fz,hx.fz,Nz,Ff,A25];rfl
 | ok p=>
  obtain⟨q,rfl,hs⟩:=hR;simp only[z0,seval,aF 66,aJ,hd.fz,he.fz,hO.v.fz,hO.f.fz,hx.fz,Nz,Ff,hs.nag,A25];rfl
theorem c26e(Bq:cl (n+408) 22 [.agg [d,e,v,f]]=some (.int .i64 er,true))(h0:er≠0):cl (n+409) 26 [.agg [d,e,v,f],dx,.int .i64 o]=some (.tup [.nils,.int .i64 er],true):=by
 rw[nY 26 A26 B26,B26];simp only[z0,seval,aF 22,aJ,hd.fz,he.fz,hO.v.fz,hO.f.fz,aH h0,Bq,A26];rfl
theorem c27e(Dj:cl (n+408) 23 [.agg [d,e,v,f]]=some (.int .i64 er,true))(h0:er≠0):cl (n+409) 27 [.agg [d,e,v,f],dx,.int .i64 o]=some (.tup [.nils,.int .i64 er],true):=by
 rw[nY 27 A27 B27,B27];simp only[z0,seval,aF 23,aJ,hd.fz,he.fz,hO.v.fz,hO.f.fz,aH h0,aE h0,Dj,A27];rfl
theorem c26r(Bq:cl (n+408) 22 [.agg [d,e,v,f]]=some (.int .i64 0,true))(ho:¬(0≤o∧o<us.length))(Cs:us.length=ss.length):cl (n+409) 26 [.agg [d,e,v,f],dx,.int .i64 o]=some (.tup [.nils,.int .i64 7],true):=by
 rw[nY 26 A26 B26,B26];have ld:=hd.len;by_cases h1:o<0
 ·simp only[z0,seval,aF 22,aJ,hd.fz,he.fz,hO.v.fz,hO.f.fz,Bq,ld,aH h1,A26];rfl
 ·have h2:decide (((ss.length:Nat):Int)≤o)=true:=aH (by omega)
  simp only[z0,seval,aF 22,aJ,hd.fz,he.fz,hO.v.fz,hO.f.fz,Bq,ld,aE h1,h2,A26];rfl
theorem c27r(Dj:cl (n+408) 23 [.agg [d,e,v,f]]=some (.int .i64 0,true))(ho:¬(0≤o∧o<us.length))(Cs:us.length=ss.length):cl (n+409) 27 [.agg [d,e,v,f],dx,.int .i64 o]=some (.tup [.nils,.int .i64 7],true):=by
 rw[nY 27 A27 B27,B27];have Ct:=c47 (n+408) hd he o;rw[show(decide (0≤o)&&decide (o<(ss.length:Int)))=false by grind]at Ct
 simp only[z0,seval,aF 23,aF 47,aJ,hd.fz,he.fz,hO.v.fz,hO.f.fz,Dj,Ct,A27];rfl
end
theorem pout_own{α:Type}{w:Nat}{g:α→List D}(he:sH w g){B:Nat}{s:St}{q:D}{l:List α}(h:jT w g B s q l)(c:Nat)(i:Int):∃r,pout (.ok (.ret (.tup [q,.int .i64 i])) s c)=some (.tup [r,.int .i64 i],true)∧Sl w g l r:=by
 have zX:∀p,frz p 20 s (.tup [q,.int .i64 i])=(frz p 19 s q).map fun r=>D.tup [r,.int .i64 i]:=fun p=>by
  show([q,D.int .i64 i].mapM (frz p 19 s)).map D.tup=_;simp only[aJ];cases frz p 19 s q<;>rfl
 obtain⟨r,h1,h2⟩:=h.fz he true;refine⟨r,?_,h2⟩;unfold pout;simp only[zX,h1 17];rfl
section
variable (n:Nat) {ss:List (List UInt8)} {us:List Nat} {d e v f dx:D} {vs:List Vr} {fs:List Fd} {x:List Nd} (hd:Sl 1 fM ss d) (he:Sl 1 u8C us e) (hO:mZ vs fs v f) (hx:Sl 7 bK x dx) {o:Nat} (hL:Lt ss us d e) (ho:o<us.length) {r:Lo (Tl×Lk)} {z:D} {f1:Bool} (hR:RfR r z) (hb:∀p,r = .ok p→p.2.lm.length<1000000∧wT us p.2.lm)
include hd he hO hx hL ho hR hb
theorem c26o(Bq:cl (n+408) 22 [.agg [d,e,v,f]]=some (.int .i64 0,true))(Oa:cl (n+408) 65 [.agg [d,e,v,f],dx]=some (z,f1)):∃y,cl (n+409) 26 [.agg [d,e,v,f],dx,.int .i64 (o:Nat)]=some (y,true)∧HdR us o r y:=by
 rw[nY 26 A26 B26,B26];have htk4:cX [d,e,v,f] 0 (some 2)=some (.agg [d,e]):=rfl;have Ff:D.pures [.agg [d,e,v,f],dx]=true:=by simp[D.pures,D.pure,hd.pure,he.pure,hO.v.pure,hO.f.pure,hx.pure]
 have ld:=hd.len;rw[←hL.l]at ld;have p1:decide (((o:Nat):Int)<0)=false:=aE (by omega)
 have p2:decide (((us.length:Nat):Int)≤(o:Nat))=false:=aE (by omega)
 cases r with
 | bad a y=>
  obtain⟨rfl,h0⟩:=hR;unfold zl0 at Oa;refine⟨.tup [.nils,.int .i64 y],?_,rfl⟩;simp only[z0,seval,aF 22,aF 65,aJ,hd.fz,he.fz,hO.v.fz,hO.f.fz,hx.fz,Bq,Oa,Ff,ld,p1,p2,aH h0,A26];rfl
 | ok p=>
  obtain⟨q,rfl,hs⟩:=hR;obtain⟨zU,Mk⟩:=hb p rfl;have Kf:(fA p.2.lm).length<1000000:=by rw[(gL p.2.lm).length_eq];exact zU
  have Rz:∀i (hi:i<(fA p.2.lm).length),∃k:Nat,(fA p.2.lm)[i].2=k∧k<us.length:=fun i hi=>Mk _ ((gL p.2.lm).mem_iff.1 (bQ hi))
  unfold HdR;simp only;generalize fA p.2.lm=L at *;simp only[z0,seval,aF 22,aF 65,aJ,hd.fz,he.fz,hO.v.fz,hO.f.fz,hx.fz,Bq,Oa,Ff,ld,p1,p2,hs.nag,hs.len];generalize hz:zloop KK _ _=rl
  refine zrange rl hz L.length (dY (by omega)) (by omega) (fun i t s c=>sget s 0=some (.fix 30 [d,e,v,f])∧tget t 3 = .ptr 0 0∧tget t 2 = .int .i64 (o:Nat)∧tget t 41=q∧kA s c∧2≤c∧∃w,tget t 6=w∧jT 1 itC 2 s w (hidL us o (L.take i))) (by decide) (by simp[aA]) (by simp[aA]) ⟨by simp[aA],by simp[aA],by simp[aA],by simp[aA],fun m hm=>by simp only[aA];grind [dX],aK _,.nils,by simp[aA],.inl ⟨rfl,rfl⟩⟩ ?_ ?_
  ·rintro i t s c hi ⟨s0,q3,q2,Us,zX,hc,w,q6,hw⟩ Ag Ah;obtain⟨k,hk,Ek⟩:=Rz i hi;have zW:=hs.row hi;rw[kI,hk]at zW;have Yz:=c67 (n+401) hL Ek ho;have zZ:=hid_step (us:=us) (o:=o) hi;rw[hk,cQ]at zZ;have n0:(0=c)=False:=aL (by omega)
   have c0:(c=0)=False:=aL (by omega)
   cases Uz:(uM us k).testBit o
   ·rw[Uz]at Yz zZ;simp only[z2,seval,htk4,s0,q2,q3,Us,q6,Ag,n0,hs.ia hi,zW,aF 67,aJ,hd.fz,he.fz,Yz];generalize hA:iS _ 1 8 4 w _=Z;obtain⟨S,hS⟩:∃S,S=sset (sadd s c (.fix 50 [.int .i64 0,.int .i64 0])) c (.fix 50 [.int .i64 L[i].1,.int .i64 (k:Nat)]):=⟨_,rfl⟩
    have gS:∀m,m≠c→sget S m=sget s m:=fun m h1=>by rw[hS];simp[aU,aZ,h1]
    rw[←hS]at hA;obtain⟨v',s4,c4,rfl,hv2,Bn,ho2,Gz⟩:=app_g1 enc_it (sz:=8) (by decide) (B:=2) (L:=hidL us o (L.take i)) (k:=L[i].1) hA rfl (hw.keep fun m b hm hb=>by rw[gS m (fun e=>by rw[e,zX c (aK _)]at hb;cases hb)];exact hb) (by have:=hid_len us o i L;omega) (by omega) (fun m hm=>by rw[gS m (by omega)];exact zX m (by omega))
    simp only[z2,seval];have g0:sget s4 0=some (.fix 30 [d,e,v,f]):=by rw[ho2 0 (by omega),gS 0 (by omega)];exact s0
    exact⟨trivial,trivial,Ag,.inr (.inr Ah),by decide,by decide,g0,q3,q2,Us,Gz,by omega,v',rfl,by rw[zZ];exact hv2⟩
   ·rw[Uz]at Yz zZ;simp only[z2,seval,htk4,s0,q2,q3,Us,q6,Ag,Ah,n0,hs.ia hi,zW,aF 67,aJ,hd.fz,he.fz,Yz];have gS:∀{b b':Blk} m,m≠c→sget (sset (sadd s c b) c b') m=sget s m:=fun m h1=>by simp[aU,aZ,h1]
    refine⟨trivial,trivial,trivial,.inr (.inr trivial),by decide,by decide,trivial,trivial,trivial,trivial,fun m hm=>?_,by omega,w,rfl,?_⟩
    ·rw[gS m (by omega)];exact zX m (by omega)
    ·rw[zZ,bG,dG];exact hw.keep fun m b hm hb=>by rw[gS m (fun e=>by rw[e,zX c (aK _)]at hb;cases hb)];exact hb
  ·rintro t s c ⟨s0,q3,q2,Us,zX,hc,w,q6,hw⟩ Ag Ah;rw[List.take_length]at hw;obtain⟨r',h1,h2⟩:=pout_own enc_it hw c 0;refine⟨_,?_,r',rfl,h2⟩;simp only[z2,seval,q6,A26];exact h1
theorem c27o(Dj:cl (n+408) 23 [.agg [d,e,v,f]]=some (.int .i64 0,true))(Nz:cl (n+408) 66 [.agg [d,e,v,f],dx]=some (z,f1)):∃y,cl (n+409) 27 [.agg [d,e,v,f],dx,.int .i64 (o:Nat)]=some (y,true)∧HdR us o r y:=by
 rw[nY 27 A27 B27,B27];have htk4:cX [d,e,v,f] 0 (some 2)=some (.agg [d,e]):=rfl;have Ff:D.pures [.agg [d,e,v,f],dx]=true:=by simp[D.pures,D.pure,hd.pure,he.pure,hO.v.pure,hO.f.pure,hx.pure]
 have Ct:=c47 (n+408) hd he (o:Nat);rw[show(decide ((0:Int)≤(o:Nat))&&decide (((o:Nat):Int)<(ss.length:Int)))=true by have:=hL.l;grind]at Ct
 have zY:cX [d,e] 0 (some 2)=some (.agg [d,e]):=rfl;have d0:decide ((0:Int)≠0)=false:=rfl;have d1:decide ((0:Int)=0)=true:=rfl;cases r with
 | bad a y=>
  obtain⟨rfl,h0⟩:=hR;unfold zl0 at Nz;refine⟨.tup [.nils,.int .i64 y],?_,rfl⟩;simp only[z0,seval,aF 23,aF 47,aF 66,aJ,hd.fz,he.fz,hO.v.fz,hO.f.fz,hx.fz,Dj,Ct,Nz,Ff,aH h0,A27];rfl
 | ok p=>
  obtain⟨q,rfl,hs⟩:=hR;obtain⟨zU,Mk⟩:=hb p rfl;have Kf:(fA p.2.lm).length<1000000:=by rw[(gL p.2.lm).length_eq];exact zU
  have Rz:∀i (hi:i<(fA p.2.lm).length),∃k:Nat,(fA p.2.lm)[i].2=k∧k<us.length:=fun i hi=>Mk _ ((gL p.2.lm).mem_iff.1 (bQ hi))
  unfold HdR;simp only;generalize fA p.2.lm=L at *;simp only[z0,seval,aF 23,aF 47,aF 66,aJ,hd.fz,he.fz,hO.v.fz,hO.f.fz,hx.fz,Dj,Ct,Nz,Ff,hs.nag];generalize hz:zloop KK _ _=rl
  refine zfor rl hz L.length (dY (by omega)) (by omega) (fun i t s c=>sget s 0=some (.fix 30 [d,e,v,f])∧(∃a1 a2 a3 a4 a5 a6 a8,sget s 1=some (.fix 40 [a1,a2,a3,a4,a5,a6,q,a8]))∧tget t 3 = .ptr 0 0∧tget t 2 = .int .i64 (o:Nat)∧tget t 9 = .ptr 1 0∧kA s c∧2≤c∧∃w,tget t 11=w∧jT 1 itC 2 s w (hidL us o (L.take i))) (by simp[aA]) ⟨by simp[aA],⟨.int .i64 p.1.k,.int .i64 p.1.r,.int .i64 (p.1.x:Nat),.int .i64 (p.1.y:Nat),.int .i64 (p.1.z:Nat),.int .i64 (p.2.ec:Nat),.int .i64 (p.2.lk:Nat),by simp[aA]⟩,by simp[aA],by simp[aA],by simp[aA],fun m hm=>by simp only[aA];grind [dX],aK _,.nils,by simp[aA],.inl ⟨rfl,rfl⟩⟩ ?_
  rintro i t s c hi ⟨s0,⟨a1,a2,a3,a4,a5,a6,a8,s1⟩,q3,q2,q9,zX,hc,w,q11,hw⟩ q12;by_cases zQ:i<L.length
  ·obtain⟨k,hk,Ek⟩:=Rz i zQ;have h0:=hs.cell zQ (show 0<2 by omega)
   have h1:=hs.cell zQ (show 1<2 by omega)
   rw[kI,hk]at h0 h1;have Qw:=c68x (n+407) hL Ek ho;have zZ:=hid_step (us:=us) (o:=o) zQ;rw[hk,cQ]at zZ;cases Uz:(uM us k).testBit o
   ·rw[Uz]at Qw zZ;simp only[z2,seval,dR,cN,fX,AOp.kd,eE,fG,eY,eJ,lH,cC,dD,htk4,s0,s1,q2,q3,q9,q11,q12,hs.len,dH zQ,hs.ia zQ,h0,h1,aF 68,aJ,hd.fz,he.fz,Qw];generalize hA:iS _ 1 8 4 w _=Z
    obtain⟨v',s4,c4,rfl,hv2,Bn,ho2,Gz⟩:=app_g1 enc_it (sz:=8) (by decide) (B:=2) (L:=hidL us o (L.take i)) (k:=L[i].1) hA rfl hw (by have:=hid_len us o i L;omega) (fZ hc (Nat.le_add_right _ _)) (fun m hm=>zX m (fZ (Nat.le_add_right _ _) hm))
    simp only[z2,seval];exact⟨zQ,trivial,trivial,q12,by rw[ho2 0 (by omega)];exact s0,⟨a1,a2,a3,a4,a5,a6,a8,by rw[ho2 1 (by omega)];exact s1⟩,q3,q2,q9,Gz,fZ hc (fZ (Nat.le_add_right _ _) (fZ (Nat.le_succ _) Bn)),v',rfl,by rw[zZ];exact hv2⟩
   ·rw[Uz]at Qw zZ;simp only[z2,seval,dR,cN,fX,AOp.kd,eE,fG,eY,eJ,lH,cC,dD,htk4,s0,s1,q2,q3,q9,q11,q12,hs.len,dH zQ,hs.ia zQ,h1,aF 68,aJ,hd.fz,he.fz,Qw]
    exact⟨zQ,trivial,trivial,trivial,trivial,⟨a1,a2,a3,a4,a5,a6,a8,rfl⟩,trivial,trivial,trivial,fun m hm=>zX m (fZ (Nat.le_add_right _ _) hm),fZ hc (Nat.le_add_right _ _),w,rfl,by rw[zZ,bG,dG];exact hw⟩
  ·have e1:i=L.length:=by omega
   subst e1;rw[List.take_length]at hw;obtain⟨r',h1,h2⟩:=pout_own enc_it hw c 0;simp only[z2,seval,s1,q9,q11,q12,hs.len,gG (aK L.length),A27];exact⟨_,h1,r',rfl,h2⟩
end
def AskB(n:Nat)(d e v f dx:D)(o:Int):Prop:=
  ∃(r:Lo (Tl×Lk)) (w y:D) (L:List Int) (er:Int),cl (n+409) 24 [.agg [d,e,v,f],dx]=some (tyR r,true)∧cl (n+409) 25 [.agg [d,e,v,f],dx]=some (tyR r,true) ∧
   cl (n+409) 26 [.agg [d,e,v,f],dx,.int .i64 o]=some (.tup [w,.int .i64 er],true)∧cl (n+409) 27 [.agg [d,e,v,f],dx,.int .i64 o]=some (.tup [y,.int .i64 er],true)∧Sl 1 itC L w∧Sl 1 itC L y∧L.length<1000000
theorem asks(n:Nat){ss:List (List UInt8)}{us:List Nat}{d e v f dx:D}{vs:List Vr}{fs:List Fd}{x:List Nd}(h:In22 ss us d e v f dx vs fs x)(o:Int):AskB n d e v f dx o:=by
 have Hk:Sl 1 itC [] .nils:=⟨fun r hr=>by simp at hr,.inl ⟨rfl,rfl⟩⟩
 have bad:∀er:Int,er≠0→cl (n+408) 22 [.agg [d,e,v,f]]=some (.int .i64 er,true)→cl (n+408) 23 [.agg [d,e,v,f]]=some (.int .i64 er,true)→cl (n+407) 23 [.agg [d,e,v,f]]=some (.int .i64 er,true)→cl (n+407) 14 [.agg [d,e,v,f],.int .i64 0,.int .i64 0,dx]=some (.tup [.agg zl0,.int .i64 0,   .int .i64 er],true)→AskB n d e v f dx o:=fun er h0 Bq Dj h23' Aq=>
  ⟨.bad 0 er,.nils,.nils,[],er,c24e n h.hd h.he h.hE h.hx Bq h0,c25o n h.hd h.he h.hE h.hx (c66e n h.hd h.he h.hE h.hx h23' h0 Aq) ⟨rfl,h0⟩,c26e n h.hd h.he h.hE h.hx Bq h0,c27e n h.hd h.he h.hE h.hx Dj h0,Hk,Hk,by decide⟩
 rcases CHK_cases ss us with⟨hC,Cs,h1,h8,_⟩|⟨x',er,hC,An⟩
 case inr=>exact bad er An (c22e (n+396) h.hd h.he h.hu h.hs hC An h.hE) (c23e (n+3) h.hd h.he h.hu h.hs hC An h.hE) (c23e (n+2) h.hd h.he h.hu h.hs hC An h.hE) (c14e (n+1) 0 0 h.hd h.he h.hE h.hx (c23e (n+1) h.hd h.he h.hu h.hs hC An h.hE) An)
 have hL:Lt ss us d e:=⟨h.hd,h.he,h.hu,h.hs,hC,Cs,h1,h8⟩;have Bq:=c22 (n+396) h.hd h.he h.hu h.hs hC h.hE;have Dj:=fun m=>c23 m h.hd h.he h.hu h.hs hC h.hE
 by_cases h0:envE us vs fs=0
 case neg=>exact bad _ h0 Bq (Dj (n+3)) (Dj (n+2)) (c14e (n+1) 0 0 h.hd h.he h.hE h.hx (Dj (n+1)) h0)
 rw[h0]at Bq Dj;obtain⟨low,Io,Kf,hl3,_⟩:=rI hC;obtain⟨r,z,y,f1,f2,Nh,Aq,hR,hR',hb⟩:=both_rf n h (low:Nat) (low:Nat);have Ew:=c43 (n+400) h.hd h.he h.hu h.hs hC Cs h1 h8;rw[hl3]at Ew;have Bf:=c100 (n+407) h.hd h.he h.hu (by omega) (by omega)
 rw[Kf]at Bf;obtain⟨f3,Oa⟩:=c65o n h.hd h.he h.hE h.hx Ew Nh hR;obtain⟨f4,Nz⟩:=c66o n h.hd h.he h.hE h.hx (Dj (n+2)) Bf Aq hR';have Ul:=c24o n h.hd h.he h.hE h.hx Bq Oa hR;have Uk:=c25o n h.hd h.he h.hE h.hx Nz hR';by_cases ho:0≤o∧o<us.length
 ·obtain⟨k,rfl⟩:=Int.eq_ofNat_of_zero_le ho.1;obtain⟨w1,h26,g1⟩:=c26o n h.hd h.he h.hE h.hx hL (show k<us.length by omega) hR hb Bq Oa
  obtain⟨w2,h27,g2⟩:=c27o n h.hd h.he h.hE h.hx hL (show k<us.length by omega) hR' hb (Dj (n+3)) Nz
  cases r with
  | bad a er=>exact⟨_,_,_,[],er,Ul,Uk,by rw[h26,g1],by rw[h27,g2],Hk,Hk,by decide⟩
  | ok p=>
   obtain⟨w,rfl,hw⟩:=g1;obtain⟨w',rfl,hw'⟩:=g2;have hl:=hid_len us k (fA p.2.lm).length (fA p.2.lm);rw[List.take_length,(gL p.2.lm).length_eq]at hl;exact⟨_,w,w',_,0,Ul,Uk,h26,h27,hw,hw',by have:=(hb p rfl).1;omega⟩
 ·exact⟨r,.nils,.nils,[],7,Ul,Uk,c26r n h.hd h.he h.hE h.hx Bq ho Cs,c27r n h.hd h.he h.hE h.hx (Dj (n+3)) ho Cs,Hk,Hk,by decide⟩
theorem c7(n:Nat){ss:List (List UInt8)}{us:List Nat}{d e v f dx:D}{vs:List Vr}{fs:List Fd}{x:List Nd}(hd:Sl 1 fM ss d)(he:Sl 1 u8C us e)(hu:fY us)(hv:Sl 6 vrC vs v)(hf:Sl 3 fdC fs f)(Gr:∀x∈fs,FdIn x)(hx:Sl 7 bK x dx)(o:Int):
  cl (n+410) 7 [.agg [d,e,v,f],dx,.int .i64 o]=some (.bool true,true):=by
 rw[nY 7 A7 B7];have zY:cX [d,e,v,f] 0 (some 4)=some (.agg [d,e,v,f]):=rfl;obtain⟨b,Kz,hb⟩:=c10 (n+408) hd he hv hf Gr;simp only[B7,cI];cases b
 case true=>
  simp only[z2,seval,zY,aF 10,aJ,hd.fz,he.fz,hv.fz,hf.fz,Kz,k12,A7];rfl
 obtain⟨b,Cr,Ad⟩:=c11 (n+409) hx;cases b
 case true=>
  simp only[z2,seval,zY,aF 10,aF 11,aJ,hd.fz,he.fz,hv.fz,hf.fz,hx.fz,Kz,Cr,k12,A7];rfl
 have hI:=in22 hd he hu hv hf Gr hx (hb rfl) (Ad rfl);obtain⟨r,w,y,L,er,Ul,Uk,h26,h27,hw,hy,hl⟩:=asks n hI o;have Ff:D.pures [.agg [d,e,v,f],dx]=true:=by simp[D.pures,D.pure,hd.pure,he.pure,hv.pure,hf.pure,hx.pure]
 obtain⟨a1,a2,a3,a4,a5,a6,a7,hT⟩:∃a1 a2 a3 a4 a5 a6 a7:Int,tyR r = .tup [.agg [.int .i64 a1,.int .i64 a2,.int .i64 a3,.int .i64 a4,.int .i64 a5],.int .i64 a6,.int .i64 a7]:=by
  cases r with
  | bad a b=>exact⟨_,_,_,_,_,_,_,rfl⟩
  | ok p=>exact⟨_,_,_,_,_,_,_,rfl⟩
 rw[hT]at Ul Uk;simp only[z0,seval,aF 10,aF 11,aF 24,aF 25,aF 26,aF 27,aJ,hd.fz,he.fz,hv.fz,hf.fz,hx.fz,Kz,Cr,Ul,Uk,h26,h27,cmp5,hw.len,hy.len,dJ,aM];generalize hz:zloop KK _ _=rl;refine zfor rl hz L.length (dY (by omega)) (by omega) (fun i t s c=>tget t 13=w∧tget t 14=y) (by simp[aA]) (by simp[aA]) ?_
 rintro i t s c hi ⟨q13,Lj⟩ Rc;by_cases zQ:i<L.length
 ·simp only[z2,seval,dR,cN,fX,AOp.kd,eE,eY,eJ,dW,cC,dD,q13,Lj,Rc,hw.len,dH zQ,hw.ia1 zQ,hw.at1 zQ,hy.ia1 zQ,itC,aV,dJ,aM];exact⟨zQ,trivial,trivial,trivial,trivial,trivial⟩
 ·have e1:i=L.length:=by omega
  subst e1;simp only[z2,seval,q13,Rc,hw.len,gG (aK L.length),k12,A7];rfl
end
end Zv
