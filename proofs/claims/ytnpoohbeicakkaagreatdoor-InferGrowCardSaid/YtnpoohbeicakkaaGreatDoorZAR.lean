/- rules: where the labels of operands are higher, the result's are. Conditions: none. -/
import Derived.Test.YtnpoohbeicakkaaGreatDoorZAQ
set_option linter.unusedVariables false
set_option linter.unusedSimpArgs false
set_option maxRecDepth 100000
namespace Zv
open Go
noncomputable section
def Gd(us:List Nat)(t:Tl):Prop:=t.ok us.length∧Le us t.x t.z∧Le us t.y t.z
def TLe(us:List Nat)(a b:Tl):Prop:=a.k=b.k∧a.r=b.r∧Le us a.x b.x∧Le us a.y b.y∧Le us a.z b.z
def Up(us:List Nat)(v w:Nat):Prop:=v<us.length∧w<us.length∧Le us v w
section
variable {ss:List (List UInt8)} {us:List Nat} {d e:D} (h:Lt ss us d e) {bot:Nat} (hb:bot<us.length)
include h
theorem Up.self{v:Nat}(hv:v<us.length):Up us v v:=⟨hv,hv,le_refl h hv⟩
theorem Up.j{v w v' w':Nat}(h1:Up us v w)(h2:Up us v' w'):Up us (J us v v') (J us w w'):=
 ⟨(h.j h1.1 h2.1).2,(h.j h1.2.1 h2.2.1).2,J_le h h1.1 h2.1 (le_trans h h1.1 h1.2.1 (h.j h1.2.1 h2.2.1).2 h1.2.2 (le_J h h1.2.1 h2.2.1).1) (le_trans h h2.1 h2.2.1 (h.j h1.2.1 h2.2.1).2 h2.2.2 (le_J h h1.2.1 h2.2.1).2)⟩
include hb
theorem Up.jF{v w v' w':Nat}(h1:Up us v w)(h2:Up us v' w'):Up us (jF us bot [v,v']) (jF us bot [w,w']):=((Up.self h hb).j h h1).j h h2
theorem jF_ub{v w:Nat}(hv:v<us.length)(hw:w<us.length):Le us v (jF us bot [v,w])∧Le us w (jF us bot [v,w]):=by
 have j1:=(h.j hb hv).2;exact⟨le_trans h hv j1 (h.j j1 hw).2 (le_J h hb hv).2 (le_J h j1 hw).1,(le_J h j1 hw).2⟩
theorem jF_lub{v w c:Nat}(hv:v<us.length)(hw:w<us.length)(h0:Le us bot c)(h1:Le us v c)(h2:Le us w c):Le us (jF us bot [v,w]) c:=
 J_le h (h.j hb hv).2 hw (J_le h hb hv h0 h1) h2
end
structure PF (us:List Nat) (bot:Nat) (a b a' b':Tl):Prop where
 ux:Up us a.x a'.x
 uy:Up us a.y a'.y
 uz:Up us a.z a'.z
 vx:Up us b.x b'.x
 vy:Up us b.y b'.y
 vz:Up us b.z b'.z
 ub:Up us bot bot
 u0:Up us 0 0
 dj:Up us (jF us bot [a.z,b.z]) (jF us bot [a'.z,b'.z])
 sa:Up us (jF us bot [a.x,a.y]) (jF us bot [a'.x,a'.y])
 sb:Up us (jF us bot [b.x,b.y]) (jF us bot [b'.x,b'.y])
 cj:Up us (cJ us bot a b) (cJ us bot a' b')
 zs:Up us (jF us bot [a.z,jF us bot [b.x,b.y]]) (jF us bot [a'.z,jF us bot [b'.x,b'.y]])
 sz:Up us (jF us bot [jF us bot [a.x,a.y],b.z]) (jF us bot [jF us bot [a'.x,a'.y],b'.z])
 xx:Up us (jF us bot [a.x,b.x]) (jF us bot [a'.x,b'.x])
 yy:Up us (jF us bot [a.y,b.y]) (jF us bot [a'.y,b'.y])
 cz:Up us (jF us bot [cJ us bot a b,a.z]) (jF us bot [cJ us bot a' b',a'.z])
 lz:Le us a'.z (jF us bot [a'.z,b'.z])
 lx:Le us a'.x (jF us bot [a'.z,b'.z])
 ly:Le us a'.y (jF us bot [a'.z,b'.z])
 mx:Le us b'.x (jF us bot [a'.z,b'.z])
 my:Le us b'.y (jF us bot [a'.z,b'.z])
 lc:Le us (cJ us bot a' b') (jF us bot [a'.z,b'.z])
 ls:Le us (jF us bot [a'.z,jF us bot [b'.x,b'.y]]) (jF us bot [a'.z,b'.z])
 kx:Le us (jF us bot [a'.x,b'.x]) (jF us bot [a'.z,b'.z])
 ky:Le us (jF us bot [a'.y,b'.y]) (jF us bot [a'.z,b'.z])
 cx:Le us a'.x (cJ us bot a' b')
 cy:Le us a'.y (cJ us bot a' b')
 bc:Le us bot (cJ us bot a' b')
theorem pf{ss:List (List UInt8)}{us:List Nat}{d e:D}(h:Lt ss us d e){bot:Nat}(hb:bot<us.length)(hl:∀i,i<us.length→(uM us bot).testBit i=true){a b a' b':Tl}(ga:Gd us a)(gb:Gd us b)(ga':Gd us a')(gb':Gd us b')(la:TLe us a a')(lb:TLe us b b'):PF us bot a b a' b':=by
 have ux:Up us a.x a'.x:=⟨ga.1.1,ga'.1.1,la.2.2.1⟩;have uy:Up us a.y a'.y:=⟨ga.1.2.1,ga'.1.2.1,la.2.2.2.1⟩;have uz:Up us a.z a'.z:=⟨ga.1.2.2,ga'.1.2.2,la.2.2.2.2⟩;have vx:Up us b.x b'.x:=⟨gb.1.1,gb'.1.1,lb.2.2.1⟩;have vy:Up us b.y b'.y:=⟨gb.1.2.1,gb'.1.2.1,lb.2.2.2.1⟩;have vz:Up us b.z b'.z:=⟨gb.1.2.2,gb'.1.2.2,lb.2.2.2.2⟩;have dj:=Up.jF h hb uz vz;have sa:=Up.jF h hb ux uy
 have sb:=Up.jF h hb vx vy;have cj:Up us (cJ us bot a b) (cJ us bot a' b'):=Up.jF h hb sa sb;have xx:=Up.jF h hb ux vx;have yy:=Up.jF h hb uy vy;have hz:=jF_ub h hb uz.2.1 vz.2.1;have lx:=le_trans h ux.2.1 uz.2.1 dj.2.1 ga'.2.1 hz.1;have ly:=le_trans h uy.2.1 uz.2.1 dj.2.1 ga'.2.2 hz.1;have mx:=le_trans h vx.2.1 vz.2.1 dj.2.1 gb'.2.1 hz.2;have my:=le_trans h vy.2.1 vz.2.1 dj.2.1 gb'.2.2 hz.2
 have l0:=hl _ dj.2.1;have s1:=jF_lub h hb ux.2.1 uy.2.1 l0 lx ly;have s2:=jF_lub h hb vx.2.1 vy.2.1 l0 mx my;have c1:=jF_ub h hb sa.2.1 sb.2.1;have c2:=jF_ub h hb ux.2.1 uy.2.1
 exact⟨ux,uy,uz,vx,vy,vz,.self h hb,.self h (by omega),dj,sa,sb,cj,Up.jF h hb uz sb,Up.jF h hb sa vz,xx,yy,Up.jF h hb cj uz,hz.1,lx,ly,mx,my,jF_lub h hb sa.2.1 sb.2.1 l0 s1 s2,jF_lub h hb uz.2.1 sb.2.1 l0 hz.1 s2,jF_lub h hb ux.2.1 vx.2.1 l0 lx mx,jF_lub h hb uy.2.1 vy.2.1 l0 ly my,le_trans h ux.2.1 sa.2.1 cj.2.1 c2.1 c1.1,le_trans h uy.2.1 sa.2.1 cj.2.1 c2.2 c1.1,hl _ cj.2.1⟩
def QR(us:List Nat)(g g':Nat×Nat×Nat×Nat×Nat):Prop:=
 Up us g.1 g'.1∧Up us g.2.1 g'.2.1∧Up us g.2.2.1 g'.2.2.1∧Up us g.2.2.2.1 g'.2.2.2.1∧Up us g.2.2.2.2 g'.2.2.2.2∧(Le us g.1 g.2.2.1→Le us g'.1 g'.2.2.1)∧(Le us g.2.1 g.2.2.1→Le us g'.2.1 g'.2.2.1)
def MnG(us:List Nat)(bot:Nat)(g:Tl→Tl→Nat×Nat×Nat×Nat×Nat):Prop:=∀a b a' b':Tl,PF us bot a b a' b'→QR us (g a b) (g a' b')
theorem ru_mono(n:Nat){ss:List (List UInt8)}{us:List Nat}{d e:D}(h:Lt ss us d e){bot:Nat}(hb:bot<us.length):∀f∈ruF,∀ra rb:Int,∃g:Tl→Tl→Nat×Nat×Nat×Nat×Nat,
  (∀a b:Tl,a.r=ra→b.r=rb→a.ok us.length→b.ok us.length→cl (n+6) f [.agg (lkC d e (tl a) (tl b) bot)]=some (ruQ (g a b),true))∧MnG us bot g:=by
 intro f hf ra rb;have g0:∀{z z':Nat},Up us z z'→Le us 0 z→Le us 0 z':=fun hz h0=>le_trans h (by omega) hz.1 hz.2.1 h0 hz.2.2
 have h229:∃g:Tl→Tl→Nat×Nat×Nat×Nat×Nat,(∀n a b,a.r=ra→b.r=rb→a.ok us.length→b.ok us.length→cl (n+5) 229 [.agg (lkC d e (tl a) (tl b) bot)]=some (ruQ (g a b),true))∧MnG us bot g∧∀a b,(g a b).2.2.1=jF us bot [a.z,b.z]:=by
  by_cases e1:rb<ra
  ·exact⟨_,fun n a b e2 e3 ha hb'=>x229_1 n h a b hb ha hb' (by omega),fun a b a' b' q=>⟨q.ux,q.uy,q.dj,q.ub,q.cj,fun _=>q.lx,fun _=>q.ly⟩,fun _ _=>rfl⟩
  by_cases e4:ra<rb
  ·exact⟨_,fun n a b e2 e3 ha hb'=>x229_2 n h a b hb ha hb' (by omega) (by omega),fun a b a' b' q=>⟨q.vx,q.vy,q.dj,q.ub,q.cj,fun _=>q.mx,fun _=>q.my⟩,fun _ _=>rfl⟩
  by_cases e5:0<ra
  ·exact⟨_,fun n a b e2 e3 ha hb'=>x229_3 n h a b hb ha hb' (by omega) (by omega) (by omega),fun a b a' b' q=>⟨q.xx,q.yy,q.dj,q.cj,q.cj,fun _=>q.kx,fun _=>q.ky⟩,fun _ _=>rfl⟩
  ·exact⟨_,fun n a b e2 e3 ha hb'=>x229_4 n h a b hb ha hb' (by omega) (by omega) (by omega),fun a b a' b' q=>⟨q.xx,q.yy,q.dj,q.ub,q.cj,fun _=>q.kx,fun _=>q.ky⟩,fun _ _=>rfl⟩
 simp only[ruF,bL,List.not_mem_nil,or_false]at hf;rcases hf with rfl|rfl|rfl|rfl|rfl|rfl|rfl|rfl|rfl|rfl|rfl|rfl|rfl|rfl|rfl
 ·exact⟨_,fun a b _ _ ha hb'=>x216 (n+1) h a b hb ha hb',fun a b a' b' q=>⟨q.ux,q.uy,q.dj,q.dj,q.cj,fun _=>q.lx,fun _=>q.ly⟩⟩
 ·exact⟨_,fun a b _ _ ha hb'=>x217 (n+1) h a b hb ha hb',fun a b a' b' q=>⟨q.ux,q.uy,q.dj,q.ub,q.cj,fun _=>q.lx,fun _=>q.ly⟩⟩
 ·exact⟨_,fun a b _ _ ha hb'=>x218 (n+1) h a b hb ha hb',fun a b a' b' q=>⟨q.ub,q.ub,q.cj,q.ub,q.cj,fun _=>q.bc,fun _=>q.bc⟩⟩
 ·exact⟨_,fun a b _ _ ha hb'=>x219 (n+1) h a b hb ha hb',fun a b a' b' q=>⟨q.cj,q.u0,q.dj,q.ub,q.cj,fun _=>q.lc,g0 q.dj⟩⟩
 ·exact⟨_,fun a b _ _ ha hb'=>x220 (n+1) h a b hb ha hb',fun a b a' b' q=>⟨q.uy,q.ux,q.dj,q.ub,q.cj,fun _=>q.ly,fun _=>q.lx⟩⟩
 ·exact⟨_,fun a b _ _ ha hb'=>x221 (n+1) h a b hb ha hb',fun a b a' b' q=>⟨q.uz,q.uz,q.dj,q.uz,q.cz,fun _=>q.lz,fun _=>q.lz⟩⟩
 ·exact⟨_,fun a b _ _ ha hb'=>x222 (n+1) h a b hb ha hb',fun a b a' b' q=>⟨q.ux,q.uy,q.dj,q.cj,q.cj,fun _=>q.lx,fun _=>q.ly⟩⟩
 ·exact⟨_,fun a b _ _ ha hb'=>x223 (n+1) h a b hb ha hb',fun a b a' b' q=>⟨q.ux,q.uy,q.cj,q.ub,q.cj,fun _=>q.cx,fun _=>q.cy⟩⟩
 ·exact⟨_,fun a b _ _ ha hb'=>x224 (n+1) h a b hb ha hb',fun a b a' b' q=>⟨q.zs,q.u0,q.dj,q.ub,q.cj,fun _=>q.ls,g0 q.dj⟩⟩
 ·exact⟨_,fun a b _ _ ha hb'=>x225 n h a b hb ha hb',fun a b a' b' q=>⟨q.uz,q.uz,q.dj,q.zs,q.cz,fun _=>q.lz,fun _=>q.lz⟩⟩
 ·exact⟨_,fun a b _ _ ha hb'=>x226 (n+1) h a b hb ha hb',fun a b a' b' q=>⟨q.xx,q.yy,q.dj,q.cj,q.cj,fun _=>q.kx,fun _=>q.ky⟩⟩
 ·exact⟨_,fun a b _ _ ha hb'=>x227 (n+1) h a b hb ha hb',fun a b a' b' q=>⟨q.vx,q.vy,q.dj,q.sz,q.cj,fun _=>q.mx,fun _=>q.my⟩⟩
 ·exact⟨_,fun a b _ _ ha hb'=>x228 (n+1) h a b hb ha hb',fun a b a' b' q=>⟨q.zs,q.u0,q.dj,q.cj,q.cj,fun _=>q.ls,g0 q.dj⟩⟩
 ·obtain⟨g,h1,h2,_⟩:=h229;exact⟨g,fun a b e2 e3 ha hb'=>h1 (n+1) a b e2 e3 ha hb',h2⟩
 ·obtain⟨g,h1,h2,h3⟩:=h229;refine⟨_,fun a b e2 e3 ha hb'=>x230 n h a b hb ha hb' (h1 n a b e2 e3 ha hb'),fun a b a' b' q=>?_⟩
  obtain⟨q1,q2,q3,q4,q5,q6,q7⟩:=h2 a b a' b' q;exact⟨q1,q2,q3,q.dj,q5,q6,q7⟩
theorem tyE_iff{us:List Nat}{low:Nat}(t:Tl):tyE us (low:Nat) (tl t)=0↔(t.k=1∨t.k=2)∧(0≤t.r∧t.r≤2)∧t.ok us.length∧(t.r=0→t.x=low)∧(t.r≤1→t.y=low)∧(1≤t.r→Le us t.x t.z)∧(t.r=2→Le us t.y t.z):=by
 have hl:∀x:Nat,rB us.length (x:Int)=false↔¬x<us.length:=fun x=>by
  unfold rB;rw[Bool.and_eq_false_iff,bX,bX];omega
 have hq:∀x z:Nat,xF us (x:Int) (z:Int)=false↔¬Le us x z:=fun x z=>by
  unfold xF Le;rw[cU,cU,eM]
 have hn:∀x z:Nat,¬xF us (x:Int) (z:Int)=false→Le us x z:=fun x z hh=>by
  unfold xF at hh;unfold Le;simpa[cU]using hh
 unfold tyE tl Tl.ok;simp only[hl];constructor
 ·intro h;split at h
  ·cases h
  split at h
  ·cases h
  split at h
  ·cases h
  split at h
  ·cases h
  rename_i h1 h2 h3 h4;simp only[not_or,not_and,Decidable.not_not]at h1 h2 h3 h4;exact⟨by have:=h1.1;omega,⟨by omega,by omega⟩,h2,fun e=>by have:=h3.1 e;omega,fun e=>by have:=h3.2 e;omega,fun e=>hn _ _ (h4.1 e),fun e=>hn _ _ (h4.2 e)⟩
 ·rintro⟨h1,h2,h3,h4,h5,h6,h7⟩;rw[aD (by omega),aD (by rintro(h|h|h);exact h h3.1;exact h h3.2.1;exact h h3.2.2),aD (by rintro(⟨h,h'⟩|⟨h,h'⟩);exact h' (by rw[h4 h]);exact h' (by rw[h5 h])),aD (by rintro(⟨h,h'⟩|⟨h,h'⟩);exact(hq _ _).1 h' (h6 h);exact(hq _ _).1 h' (h7 h))]
theorem gd_of{us:List Nat}{low:Nat}(hl:gZ us=(low:Nat))(hb:∀i,i<us.length→(uM us low).testBit i=true){t:Tl}(h1:t.ok us.length)(h3:tyE us (gZ us) (tl t)=0):Gd us t:=by
 rw[hl,tyE_iff]at h3;obtain⟨_,⟨r0,r2⟩,_,e1,e2,e3,e4⟩:=h3;refine⟨h1,?_,?_⟩
 ·by_cases e:t.r=0
  ·rw[e1 e];exact hb _ h1.2.2
  ·exact e3 (by omega)
 ·by_cases e:t.r≤1
  ·rw[e2 e];exact hb _ h1.2.2
  ·exact e4 (by omega)
theorem vZ{ss:List (List UInt8)}{us:List Nat}{d e:D}(h:Lt ss us d e){t:Tl}(ht:t.ok us.length):TLe us t t:=⟨rfl,rfl,le_refl h ht.1,le_refl h ht.2.1,le_refl h ht.2.2⟩
def ruR(bot:Nat)(k r er:Int)(g:Nat×Nat×Nat×Nat×Nat):D:=if er=0 then
  .tup [.agg [.int .i64 k,.int .i64 r,.int .i64 (if r≤0 then bot else g.1:Nat),.int .i64 (if r≤1 then bot else g.2.1:Nat),.int .i64 (g.2.2.1:Nat),.int .i64 (g.2.2.2.1:Nat),.int .i64 (g.2.2.2.2:Nat)],.int .i64 0]
 else .tup [.agg [.int .i64 0,.int .i64 0,.int .i64 0,.int .i64 0,.int .i64 0,.int .i64 0,.int .i64 0],.int .i64 er]
set_option maxHeartbeats 1000000 in
theorem m126_1(n:Nat){ss:List (List UInt8)}{us:List Nat}{d e:D}(h:Lt ss us d e){bot:Nat}(hb2:bot<us.length)(hend:endI (uM us) ss.length=bot)(p:Int){k r:Int}(hk:KR k r):
  ∃(k' r' er:Int) (g:Tl→Tl→Nat×Nat×Nat×Nat×Nat),MnG us bot g∧∀(t:Tl) (q:D),t.k=k→t.r=r→t.ok us.length→tyE us (gZ us) (tl t)=0→Sl 5 tlC [t] q→cl (n+12) 126 [.agg [d,e],.int .i64 p,q]=some (ruR bot k' r' er (g t ⟨0,0,bot,bot,bot⟩),true):=by
 obtain⟨k',r',e',h166,hr'⟩:=c166 (n+7) p (K:=[(k,r)]) (show 1<1000 by decide) (fun p hp=>by rw[eB.1 hp];exact hk)
 simp only[kD,rD,bW,eX,aU,bN,bK]at h166;by_cases he':e'=0
 ·subst he';obtain⟨hr2,hp1,hp2⟩:=hr' rfl;obtain⟨i,hi,rfl⟩:∃i:Nat,i<40∧p=((i+1:Nat):Int):=⟨(p-1).toNat,by omega,by omega⟩
  obtain⟨f,hf,htab⟩:=tabR_fn hi;have hps:=ru_ps f hf;obtain⟨g,hg,hM⟩:=ru_mono (n+5) h hb2 f hf r 0;refine⟨k',r',0,g,hM,fun t q hk1 hr1 ht hE hq=>?_⟩
  subst hk1 hr1;rw[cK (A:=A126) rfl (n+12) _ rfl,show A126.body=B126 from rfl]
  simp only[B126,Ab.abq];have h59:=c59 (n+6) h.d h.e h.u h.s;have h43:=c43 (n+4) h.d h.e h.u h.s h.c h.l h.h1 h.h8;have h62:=c62 (n+2) h.d h.e h.u h.s h.c (tl t);rw[h.c]at h59;rw[hend]at h43;rw[hE]at h62;have hlen:=hq.len;have hia:=hq.ia (i:=0) (show 0<[t].length from Nat.zero_lt_one) (k:=.i64)
  have hc0:((0:Nat):Int)=0:=rfl;have hc1:((([t]:List Tl).length:Nat):Int)=1:=rfl;have htk:dE [d,e] 0 (some 2)=some (.agg [d,e]):=rfl;rw[hc0]at hia;have hfl:(List.map tlC [t]).flatten=[.int .i64 t.k,.int .i64 t.r,.int .i64 (t.x:Nat),.int .i64 (t.y:Nat),.int .i64 (t.z:Nat)]:=rfl;rw[hfl,dV]at hia;simp only[tyC,tl]at h62;have hru:=hg t ⟨0,0,bot,bot,bot⟩ rfl rfl ht ⟨hb2,hb2,hb2⟩
  generalize g t ⟨0,0,bot,bot,bot⟩=G at *;simp only[lkC,tl,ruQ,ruD]at hru;have h167:=c167 (n+10);have hix:kQ 41 (.int .i64 ((i+1:Nat):Int))=some (i+1):=fM (by omega)
  have hr3:r'=0∨r'=1∨r'=2:=by omega
  rcases hr3 with rfl|rfl|rfl<;>simp only[z0,seval,seval,dV,appN,aU,bN,h.d.nag,h.e.nag,hlen,hc1,Int.reduceLT,htk,aF (f:=59) rfl,aF (f:=43) rfl,aF (f:=62) rfl,aQ,h.d.fz,h.e.fz,h59,h43,e2,nb,hia,h62,zun,Int.reduceAdd,show dJ .i64 1=1 from rfl,show dJ .i64 2=2 from rfl,i20,eG,cX,AOp.kd,zop,tks,cC,dW,cT,eQ,dU,bQ,aO,rI,aF (f:=166) rfl,h166,aF (f:=167) rfl,h167,hix,htab,tabR_len,sF,uQ,cf_fn,dL,aF hps,hru,A126]
  all_goals rfl
 ·obtain⟨g,hg,hM⟩:=ru_mono (n+5) h hb2 216 (by decide) 0 0
  refine⟨k',r',e',g,hM,fun t q hk1 hr1 ht hE hq=>?_⟩
  subst hk1 hr1;rw[cK (A:=A126) rfl (n+12) _ rfl,show A126.body=B126 from rfl]
  simp only[B126,Ab.abq];have h59:=c59 (n+6) h.d h.e h.u h.s;have h43:=c43 (n+4) h.d h.e h.u h.s h.c h.l h.h1 h.h8;have h62:=c62 (n+2) h.d h.e h.u h.s h.c (tl t);rw[h.c]at h59;rw[hend]at h43;rw[hE]at h62;have hlen:=hq.len;have hia:=hq.ia (i:=0) (show 0<[t].length from Nat.zero_lt_one) (k:=.i64)
  have hc0:((0:Nat):Int)=0:=rfl;have hc1:((([t]:List Tl).length:Nat):Int)=1:=rfl;have htk:dE [d,e] 0 (some 2)=some (.agg [d,e]):=rfl;rw[hc0]at hia;have hfl:(List.map tlC [t]).flatten=[.int .i64 t.k,.int .i64 t.r,.int .i64 (t.x:Nat),.int .i64 (t.y:Nat),.int .i64 (t.z:Nat)]:=rfl;rw[hfl,dV]at hia;simp only[tyC,tl]at h62;rw[show ruR bot k' r' e' (g t ⟨0,0,bot,bot,bot⟩)=_ from aD he']
  simp only[z0,seval,seval,dV,appN,aU,bN,h.d.nag,h.e.nag,hlen,hc1,Int.reduceLT,htk,aF (f:=59) rfl,aF (f:=43) rfl,aF (f:=62) rfl,aQ,h.d.fz,h.e.fz,h59,h43,e2,nb,hia,h62,zun,Int.reduceAdd,show dJ .i64 1=1 from rfl,show dJ .i64 2=2 from rfl,i20,eG,cX,AOp.kd,zop,tks,cC,dW,cT,eQ,dU,bQ,aO,rI,aF (f:=166) rfl,h166,aK he',A126]
  rfl
set_option maxHeartbeats 1000000 in
theorem m126_2(n:Nat){ss:List (List UInt8)}{us:List Nat}{d e:D}(h:Lt ss us d e){bot:Nat}(hb2:bot<us.length)(hend:endI (uM us) ss.length=bot)(p:Int){k r k2 r2:Int}(hk:KR k r)(hku:KR k2 r2):
  ∃(k' r' er:Int) (g:Tl→Tl→Nat×Nat×Nat×Nat×Nat),MnG us bot g∧∀(t u:Tl) (q:D),t.k=k→t.r=r→u.k=k2→u.r=r2→t.ok us.length→u.ok us.length→tyE us (gZ us) (tl t)=0→tyE us (gZ us) (tl u)=0→Sl 5 tlC [t,u] q→cl (n+12) 126 [.agg [d,e],.int .i64 p,q]=some (ruR bot k' r' er (g t u),true):=by
 obtain⟨k',r',e',h166,hr'⟩:=c166 (n+7) p (K:=[(k,r),(k2,r2)]) (show 2<1000 by decide) (fun p hp=>by rcases bL.1 hp with rfl|hp;exact hk;rw[eB.1 hp];exact hku)
 simp only[kD,rD,bW,eX,aU,bN,bK]at h166;by_cases he':e'=0
 ·subst he';obtain⟨hr2,hp1,hp2⟩:=hr' rfl;obtain⟨i,hi,rfl⟩:∃i:Nat,i<40∧p=((i+1:Nat):Int):=⟨(p-1).toNat,by omega,by omega⟩
  obtain⟨f,hf,htab⟩:=tabR_fn hi;have hps:=ru_ps f hf;obtain⟨g,hg,hM⟩:=ru_mono (n+5) h hb2 f hf r r2;refine⟨k',r',0,g,hM,fun t u q hk1 hr1 hk2 hr2' ht hu hE hEu hq=>?_⟩
  subst hk1 hr1 hk2 hr2';rw[cK (A:=A126) rfl (n+12) _ rfl,show A126.body=B126 from rfl]
  simp only[B126,Ab.abq];have h59:=c59 (n+6) h.d h.e h.u h.s;have h43:=c43 (n+4) h.d h.e h.u h.s h.c h.l h.h1 h.h8;have h62:=c62 (n+2) h.d h.e h.u h.s h.c (tl t);rw[h.c]at h59;rw[hend]at h43;have h62u:=c62 (n+2) h.d h.e h.u h.s h.c (tl u);rw[hE]at h62;rw[hEu]at h62u;have hlen:=hq.len;have hia:=hq.ia (i:=0) (show 0<[t,u].length from Nat.zero_lt_two) (k:=.i64)
  have hia1:=hq.ia (i:=1) (show 1<[t,u].length from Nat.one_lt_two) (k:=.i64)
  have hc0:((0:Nat):Int)=0:=rfl;have hc1:((([t,u]:List Tl).length:Nat):Int)=2:=rfl;have hc2:((1:Nat):Int)=1:=rfl;have htk:dE [d,e] 0 (some 2)=some (.agg [d,e]):=rfl;rw[hc0]at hia;rw[hc2]at hia1
  have hfl:(List.map tlC [t,u]).flatten=[.int .i64 t.k,.int .i64 t.r,.int .i64 (t.x:Nat),.int .i64 (t.y:Nat),.int .i64 (t.z:Nat),.int .i64 u.k,.int .i64 u.r,.int .i64 (u.x:Nat),.int .i64 (u.y:Nat),.int .i64 (u.z:Nat)]:=rfl;rw[hfl,dV]at hia;rw[hfl,Nat.one_mul]at hia1;simp only[tyC,tl]at h62 h62u;have hru:=hg t u rfl rfl ht hu;generalize g t u=G at *;simp only[lkC,tl,ruQ,ruD]at hru
  have h167:=c167 (n+10);have hix:kQ 41 (.int .i64 ((i+1:Nat):Int))=some (i+1):=fM (by omega)
  have hr3:r'=0∨r'=1∨r'=2:=by omega
  rcases hr3 with rfl|rfl|rfl<;>simp only[z0,seval,seval,dV,appN,appG,apG_eq,iH,aU,bN,h.d.nag,h.e.nag,hlen,hc1,Int.reduceLT,htk,aF (f:=59) rfl,aF (f:=43) rfl,aF (f:=62) rfl,aQ,h.d.fz,h.e.fz,h59,h43,e2,nb,hia,hia1,h62,h62u,zun,Int.reduceAdd,show dJ .i64 1=1 from rfl,show dJ .i64 2=2 from rfl,i20,eG,cX,AOp.kd,zop,tks,cC,dW,cT,eQ,dU,bQ,aO,rI,aF (f:=166) rfl,h166,aF (f:=167) rfl,h167,hix,htab,tabR_len,sF,uQ,cf_fn,dL,aF hps,hru,A126]
  all_goals rfl
 ·obtain⟨g,hg,hM⟩:=ru_mono (n+5) h hb2 216 (by decide) 0 0
  refine⟨k',r',e',g,hM,fun t u q hk1 hr1 hk2 hr2' ht hu hE hEu hq=>?_⟩
  subst hk1 hr1 hk2 hr2';rw[cK (A:=A126) rfl (n+12) _ rfl,show A126.body=B126 from rfl]
  simp only[B126,Ab.abq];have h59:=c59 (n+6) h.d h.e h.u h.s;have h43:=c43 (n+4) h.d h.e h.u h.s h.c h.l h.h1 h.h8;have h62:=c62 (n+2) h.d h.e h.u h.s h.c (tl t);rw[h.c]at h59;rw[hend]at h43;have h62u:=c62 (n+2) h.d h.e h.u h.s h.c (tl u);rw[hE]at h62;rw[hEu]at h62u;have hlen:=hq.len;have hia:=hq.ia (i:=0) (show 0<[t,u].length from Nat.zero_lt_two) (k:=.i64)
  have hia1:=hq.ia (i:=1) (show 1<[t,u].length from Nat.one_lt_two) (k:=.i64)
  have hc0:((0:Nat):Int)=0:=rfl;have hc1:((([t,u]:List Tl).length:Nat):Int)=2:=rfl;have hc2:((1:Nat):Int)=1:=rfl;have htk:dE [d,e] 0 (some 2)=some (.agg [d,e]):=rfl;rw[hc0]at hia;rw[hc2]at hia1
  have hfl:(List.map tlC [t,u]).flatten=[.int .i64 t.k,.int .i64 t.r,.int .i64 (t.x:Nat),.int .i64 (t.y:Nat),.int .i64 (t.z:Nat),.int .i64 u.k,.int .i64 u.r,.int .i64 (u.x:Nat),.int .i64 (u.y:Nat),.int .i64 (u.z:Nat)]:=rfl;rw[hfl,dV]at hia;rw[hfl,Nat.one_mul]at hia1;simp only[tyC,tl]at h62 h62u;rw[show ruR bot k' r' e' (g t u)=_ from aD he']
  simp only[z0,seval,seval,dV,appN,appG,apG_eq,iH,aU,bN,h.d.nag,h.e.nag,hlen,hc1,Int.reduceLT,htk,aF (f:=59) rfl,aF (f:=43) rfl,aF (f:=62) rfl,aQ,h.d.fz,h.e.fz,h59,h43,e2,nb,hia,hia1,h62,h62u,zun,Int.reduceAdd,show dJ .i64 1=1 from rfl,show dJ .i64 2=2 from rfl,i20,eG,cX,AOp.kd,zop,tks,cC,dW,cT,eQ,dU,bQ,aO,rI,aF (f:=166) rfl,h166,aK he',A126]
  rfl
theorem ru_res{us:List Nat}{bot:Nat}{k r er:Int}{g:Nat×Nat×Nat×Nat×Nat}{x:Option (D×Bool)}(hx:x=some (ruR bot k r er g,true))(hq:QR us g g):RuRes us.length x:=by
 rw[hx];unfold RuRes ruR;split
 ·exact⟨_,_,_,_,_,_,_,_,rfl,fun _=>⟨rgN hq.2.2.2.1.1,rgN hq.2.2.2.2.1.1⟩⟩
 ·rename_i h;exact⟨_,_,_,_,_,_,_,_,rfl,fun h'=>absurd h' h⟩
theorem c126_1(n:Nat){ss:List (List UInt8)}{us:List Nat}{d e:D}(h:Lt ss us d e)(t:Tl)(ht:t.ok us.length)(hk:KR t.k t.r)(hE:tyE us (gZ us) (tl t)=0)(p:Int){q:D}(hq:Sl 5 tlC [t] q):
  RuRes us.length (cl (n+12) 126 [.agg [d,e],.int .i64 p,q]):=by
 obtain⟨b,hb1,hb2,hend,hb3⟩:=oN h.c;rw[←h.l]at hb1 hb3;obtain⟨k,r,er,g,hM,hg⟩:=m126_1 n h hb1 hend p hk;have g0:Gd us ⟨0,0,b,b,b⟩:=⟨⟨hb1,hb1,hb1⟩,hb3 _ hb1,hb3 _ hb1⟩;have g1:=gd_of hb2 hb3 ht hE;exact ru_res (hg t q rfl rfl ht hE hq) (hM _ _ _ _ (pf h hb1 hb3 g1 g0 g1 g0 (vZ h ht) (vZ h g0.1)))
theorem c126_2(n:Nat){ss:List (List UInt8)}{us:List Nat}{d e:D}(h:Lt ss us d e)(t u:Tl)(ht:t.ok us.length)(hk:KR t.k t.r)(hE:tyE us (gZ us) (tl t)=0)(hu:u.ok us.length)(hku:KR u.k u.r)(hEu:tyE us (gZ us) (tl u)=0)(p:Int){q:D}(hq:Sl 5 tlC [t,u] q):
  RuRes us.length (cl (n+12) 126 [.agg [d,e],.int .i64 p,q]):=by
 obtain⟨b,hb1,hb2,hend,hb3⟩:=oN h.c;rw[←h.l]at hb1 hb3;obtain⟨k,r,er,g,hM,hg⟩:=m126_2 n h hb1 hend p hk hku;have g1:=gd_of hb2 hb3 ht hE;have g2:=gd_of hb2 hb3 hu hEu;exact ru_res (hg t u q rfl rfl rfl rfl ht hu hE hEu hq) (hM _ _ _ _ (pf h hb1 hb3 g1 g2 g1 g2 (vZ h ht) (vZ h hu)))
theorem i30:kE 1 (.ms 2 0 1 3 3) (.int .i64 0)=some (.ptr 2 0)∧kE 1 (.ms 2 0 1 3 3) (.int .i64 1)=some (.ptr 2 1)∧kE 1 (.ms 2 0 1 3 3) (.int .i64 2)=some (.ptr 2 2)∧kE 1 (.ms 3 0 1 2 2) (.int .i64 0)=some (.ptr 3 0)∧kE 1 (.ms 3 0 1 2 2) (.int .i64 1)=some (.ptr 3 1):=⟨rfl,rfl,rfl,rfl,rfl⟩
def afN(us:List Nat)(ec w c:Nat):Nat:=J us (J us ec w) c
set_option maxHeartbeats 1000000 in
theorem c127(n:Nat){ss:List (List UInt8)}{us:List Nat}{d e:D}(h:Lt ss us d e)(ty:Ty){ec w c:Nat}(hec:ec<us.length)(hw:w<us.length)(hc:c<us.length):
  cl (n+10) 127 [.agg [d,e],.int .i64 (ec:Nat),.agg [.int .i64 ty.kind,.int .i64 ty.rank,.int .i64 ty.a0,.int .i64 ty.a1,.int .i64 ty.data,.int .i64 (w:Nat),.int .i64 (c:Nat)]]=some (if tyE us (gZ us) ty=0 then e2 (afN us ec w c:Nat) 0 else e2 0 (tyE us (gZ us) ty),true):=by
 rw[cK (A:=A127) rfl (n+10) _ rfl,show A127.body=B127 from rfl]
 simp only[B127,Ab.abq];have h62:=c62 n h.d h.e h.u h.s h.c ty;have htk:dE [d,e] 0 (some 2)=some (.agg [d,e]):=rfl;have hx:∀c (hc:c<us.length),us[c]=uM us c:=fun c hc=>(jX hc 0).symm
 have hul:=h.l;have h8:=h.h8;obtain⟨j1,j2⟩:=h.j hec hw;obtain⟨j3,j4⟩:=h.j j2 hc;have k1:=c69 (n+9) h.e (by omega) ec w
 have k2:=c69 (n+9) h.e (by omega) (J us ec w) c
 rw[j1]at k1;rw[j3]at k2;have ld:=h.d.len;have g:∀{k:Nat},k<us.length→decide ((k:Int)<0)=false∧decide ((k:Int)≥(ss.length:Nat))=false∧decide (((ss.length:Nat):Int)≤(k:Nat))=false:=fun hk=>⟨by rw[bX];omega,by rw[bX];omega,by rw[bX];omega⟩
 have hc3:((3:Nat):Int)=3:=rfl;have hc2:((2:Nat):Int)=2:=rfl;simp only[tyC]at h62;by_cases hE:tyE us (gZ us) ty=0
 ·rw[aH hE];rw[hE]at h62
  simp only[z0,seval,seval,dV,dL,h.d.nag,h.e.nag,htk,aF (f:=62) rfl,aF (f:=69) rfl,aQ,h.d.fz,h.e.fz,h62,nb,zun,hc3,hc2,i30,show lenD false (.ms 2 0 1 3 3)=some 3 from rfl,show lenD false (.ms 3 0 1 2 2)=some 2 from rfl,ld,(g hec).1,(g hw).1,(g hc).1,(g hec).2.1,(g hw).2.1,(g hc).2.1,(g hec).2.2,(g hw).2.2,(g hc).2.2,show dJ .i64 1=1 from rfl,show dJ .i64 2=2 from rfl,show dJ .i64 3=3 from rfl,eG,cX,AOp.kd,zop,tks,cC,dW,cT,eQ,h.e.ia1 hec,h.e.at1 hec,h.e.ia1 hw,h.e.at1 hw,h.e.ia1 hc,h.e.at1 hc,h.e.ia1 j2,h.e.at1 j2,u8C,hx _ hec,hx _ hw,hx _ hc,hx _ j2,iG (lI h.u ec) (lI h.u w),iG (lI h.u (J us ec w)) (lI h.u c),k1,k2,A127]
  rfl
 ·rw[aD hE];simp only[z0,seval,h.d.nag,h.e.nag,htk,aF (f:=62) rfl,aQ,h.d.fz,h.e.fz,h62,nb,aK hE,A127];rfl
theorem iV:(∀(cx:Cx) (cl:CL) (dst:Option Nat) (g:Option (Nat×Bool)) (x:AS) (f:Arg) (l:List Arg),zOp cx cl ⟨dst,.callv f l,g⟩ x=kN cx cl dst x (f.ev cx.G x.t) (evs l cx.G x.t)) ∧
  (∀(cx:Cx) (cl:CL) (dst:Option Nat) (x:AS) (f:Nat) (p q args:List D),kN cx cl dst x (.fn (.func f) p q) args=back dst x (cl (.fn f) (p++args++q) x.s x.c)) ∧
  (∀(cx:Cx) (cl:CL) (dst:Option Nat) (g:Option (Nat×Bool)) (x:AS) (a:Arg),zOp cx cl ⟨dst,.pan a,g⟩ x=match a.ev cx.G x.t with | .iface t v=>.ok (.pan [(.iface t v,false)]) x|_=>.no) ∧
  (∀(cx:Cx) (cl:CL) (dst:Option Nat) (g:Option (Nat×Bool)) (f:Nat) (l:List Arg) (t:Tm) (s:St) (c:Nat) (d:List (D×List D)),zOp cx cl ⟨dst,.dfr (.f f) l,g⟩ ⟨t,s,c,d,none⟩ = .ok .normal ⟨iI dst t .un,s,c,(.fn (.func f) [] [],evs l cx.G t)::d,none⟩):=
 ⟨fun _ _ _ _ _ _ _=>rfl,fun _ _ _ _ _ _ _ _=>rfl,fun _ _ _ _ _ _=>rfl,fun _ _ _ _ _ _ _ _ _ _=>rfl⟩
theorem tX(df:Nat→List D→dS→St→Nat→DR)(A:AF)(ch:Ch)(t:Tm)(s:St)(c:Nat)(r:Option Nat):zbody df A (.ok (.pan ch) ⟨t,s,c,[],r⟩) = .ok (.pan ch) s c:=rfl
def jB(a e:Int):Ch:=[(.iface 130 (.agg [.int .i64 a,.int .i64 e]),false)]
theorem eY(n j:Nat)(a e:Int)(s:St)(c:Nat):fn n (j+1) (.fn 41) [.int .i64 a,.int .i64 e] s c=if e=0 then .ok (.ret (.tup [])) s c else .ok (.pan (jB a e)) s c:=by
 rw[iN (A:=A41) rfl rfl rfl rfl n j _ s c rfl,show A41.body=B41 from rfl]
 simp only[B41,Ab.abq];by_cases h:e=0
 ·rw[aH h];subst h;simp only[z2,seval,A41,show decide ((0:Int)≠0)=false from rfl]
 ·rw[aD h];simp only[z2,seval,A41,iV,show decide (e≠0)=true from bD h,tX,jB]
theorem dfn_in{f:Nat}{A:AF}(hT:BX.T f=some A)(n j:Nat)(args:List D)(m:dS)(s:St)(c:Nat)(hl:Nat.beq args.length A.np=true):dfn n (j+1) f args m s c=zdbody A (zS (cxn n) (fn n j) KK A.body (start args s c) m):=by
 show zdef (lw BX ps ms KK MM n) KK (zN (lw BX ps ms KK MM n) KK j) f args m s c=_;unfold zdef;rw[(uE n).1,hT];simp only;rw[hl];rfl
theorem caught_none(n j:Nat)(s:St)(c:Nat):dfn n (j+1) 40 [.ptr 2 0,.ptr 1 0] none s c = .ok (.ret (.tup [])) none s c:=by
 rw[dfn_in (A:=A40) rfl n j _ _ s c rfl];rfl
def zSb(K:AS→dS→RS)(r:RS):RS:=match r with
 | .ok .normal y m=>K y m
 | r=>r
def zSc(v:D)(p q:RS):RS:=match v with
 | .bool r=>bif r then p else q
 | _=>.no
def zSl(id:Nat)(r:RS):RS:=match r with
 | .ok (.exit i) y m=>bif Nat.beq i id then .ok .normal y m else .ok (.exit i) y m
 | r=>r
def zSr(m:dS)(r:R):RS:=match r with
 | .ok o y=>.ok o y m
 | .no=>.no
def zSo(K:AS→RS)(m:dS)(r:R):RS:=match r with
 | .ok .normal y=>K y
 | .ok e y=>.ok e y m
 | .no=>.no
theorem ex_S:(∀(cx:Cx) (cl:CL) (k:Nat) (m:dS) (x:AS) ops,zS cx cl k (.reg none ops) x m=jL cx cl ops x m)∧(∀(cx:Cx) (cl:CL) (k:Nat) (m:dS) (x:AS) o ops,zS cx cl k (.reg (some o) ops) x m=bif (AC.reg (some o) ops).noRcv then zSr m (zC (.reg (some o) ops) cx cl k x) else .no) ∧
  (∀(cx:Cx) (cl:CL) (k:Nat) (m:dS) (x:AS) a b,zS cx cl k (.seq a b) x m=zSb (zS cx cl k b) (zS cx cl k a x m))∧(∀(cx:Cx) (cl:CL) (k:Nat) (m:dS) (x:AS) v a b,zS cx cl k (.cond v a b) x m=zSc (v.ev cx.G x.t) (zS cx cl k a x m) (zS cx cl k b x m))∧(∀(cx:Cx) (cl:CL) (k:Nat) (m:dS) (x:AS) i a,zS cx cl k (.block i a) x m=zSl i (zS cx cl k a x m)) ∧
  (∀(cx:Cx) (cl:CL) (m:dS) (x:AS),jL cx cl [] x m = .ok .normal x m)∧(∀(cx:Cx) (cl:CL) (x:AS) n v o r,jL cx cl (⟨some n,.rcv,none⟩::r) x (some ((v,false)::o))=jL cx cl r ⟨tput x.t n v,x.s,x.c,x.d,x.r⟩ (some ((v,true)::o))) ∧
  (∀(cx:Cx) (cl:CL) (m:dS) (x:AS) d a r,jL cx cl (⟨d,.mv a,none⟩::r) x m=zSo (fun y=>jL cx cl r y m) m (zOp cx cl ⟨d,.mv a,none⟩ x)) ∧
  (∀(cx:Cx) (cl:CL) (m:dS) (x:AS) d a b u v r,jL cx cl (⟨d,.cmp a b u v,none⟩::r) x m=zSo (fun y=>jL cx cl r y m) m (zOp cx cl ⟨d,.cmp a b u v,none⟩ x)) ∧
  (∀(cx:Cx) (cl:CL) (m:dS) (x:AS) d a b u v r,jL cx cl (⟨d,.tas a b u v,none⟩::r) x m=zSo (fun y=>jL cx cl r y m) m (zOp cx cl ⟨d,.tas a b u v,none⟩ x)) ∧
  (∀(cx:Cx) (cl:CL) (m:dS) (x:AS) d a b r,jL cx cl (⟨d,.ext a b,none⟩::r) x m=zSo (fun y=>jL cx cl r y m) m (zOp cx cl ⟨d,.ext a b,none⟩ x)) ∧
  (∀(cx:Cx) (cl:CL) (m:dS) (x:AS) d a b r,jL cx cl (⟨d,.new a b,none⟩::r) x m=zSo (fun y=>jL cx cl r y m) m (zOp cx cl ⟨d,.new a b,none⟩ x)) ∧
  (∀(cx:Cx) (cl:CL) (m:dS) (x:AS) d a b u r,jL cx cl (⟨d,.st a b u,none⟩::r) x m=zSo (fun y=>jL cx cl r y m) m (zOp cx cl ⟨d,.st a b u,none⟩ x)) ∧
  (∀m K y,zSo K m (.ok .normal y)=K y)∧(∀m K y,zSb K (.ok .normal y m)=K y m)∧(∀p q,zSc (.bool true) p q=p)∧(∀p q,zSc (.bool false) p q=q)∧(∀m i y,zSl i (.ok .normal y m) = .ok .normal y m)∧(∀m o y,zSr m (.ok o y) = .ok o y m):=
 ⟨fun _ _ _ _ _ _=>rfl,fun _ _ _ _ _ _ _=>rfl,fun _ _ _ _ _ _ _=>rfl,fun _ _ _ _ _ _ _ _=>rfl,fun _ _ _ _ _ _ _=>rfl,fun _ _ _ _=>rfl,fun _ _ _ _ _ _ _=>rfl,fun _ _ _ _ _ _ _=>rfl,fun _ _ _ _ _ _ _ _ _ _=>rfl,fun _ _ _ _ _ _ _ _ _ _=>rfl,fun _ _ _ _ _ _ _ _=>rfl,fun _ _ _ _ _ _ _ _=>rfl,fun _ _ _ _ _ _ _ _ _=>rfl,fun _ _ _=>rfl,fun _ _ _=>rfl,fun _ _=>rfl,fun _ _=>rfl,fun _ _ _=>rfl,fun _ _ _=>rfl⟩
theorem caught_some(n j:Nat)(a e x y:Int){k k':Nat}{s:St}{c:Nat}(h1:sget s 1=some (.fix k [.int .i64 x]))(h2:sget s 2=some (.fix k' [.int .i64 y]))(hf:∀m,c≤m→sget s m=none)(hc:3≤c):
  ∃s' c',dfn n (j+1) 40 [.ptr 2 0,.ptr 1 0] (some (jB a e)) s c = .ok (.ret (.tup [])) (some [(.iface 130 (.agg [.int .i64 a,.int .i64 e]),true)]) s' c'∧sget s' 1=some (.fix k [.int .i64 e])∧sget s' 2=some (.fix k' [.int .i64 a]):=by
 rw[dfn_in (A:=A40) rfl n j _ _ s c rfl,show A40.body=B40 from rfl]
 unfold B40 jB;have f1:(1=c)=False:=aL (by omega)
 have f2:(2=c)=False:=aL (by omega)
 have g1:(c=1)=False:=aL (by omega)
 have g2:(c=2)=False:=aL (by omega)
 have hcm:∀d,pN (.ifc true) (.iface 130 d) .nilif=some false:=fun _=>rfl
 simp only[z2,seval,ex_S,f1,f2,g1,g2,h1,h2,hcm,cD,cA,AC.noRcv,eG,cX,AOp.kd,zop,dP,tks,cC,dW,nb];refine⟨_,_,rfl,?_,?_⟩
 ·simp only[aE];simp
 ·simp only[aE];simp
def mpS:Nat→List (List UInt8)→List (D×D×Nat)
 | _,[]=>[]
 | k,s::r=>(.str s,.bool true,k)::mpS (k+1) r
theorem mpS_snoc:∀(L:List (List UInt8)) (k:Nat) (s:List UInt8),mpS k L++[(.str s,.bool true,k+L.length)]=mpS k (L++[s])
 | [],k,s=>rfl
 | a::L,k,s=>by
  simp only[mpS,cD,aU];rw[show k+(L.length+1)=k+1+L.length by omega,mpS_snoc L (k+1) s]
theorem mfind_mpS(x:List UInt8):∀(L:List (List UInt8)) (k n:Nat),(x∈L∧∃i,mfind .str (.str x) (mpS k L) n=some (some (i,.bool true)))∨(x∉L∧mfind .str (.str x) (mpS k L) n=some none)
 | [],k,n=>.inr ⟨by simp,rfl⟩
 | a::L,k,n=>by
  have h:keyEq .str (.str x) (.str a)=some (decide (x=a)):=by
   show some (x==a)=_;rw[show(x==a)=decide (x=a) from by rw[dC];simp]
  simp only[mpS,mfind,h];by_cases e:x=a
  ·rw[bD e];exact .inl ⟨by simp[e],n,rfl⟩
  ·rw[aK e];rcases mfind_mpS x L (k+1) (n+1) with⟨h1,h2⟩|⟨h1,h2⟩
   ·exact .inl ⟨by simp[h1],h2⟩
   ·exact .inr ⟨by simp[e,h1],h2⟩
def mX(s:List UInt8)(had:List (List UInt8)):Int:=if iP s=true then(if s∈had then 8 else 0) else 6
theorem fresh_ok(n j:Nat){nm:List UInt8}(hl:nm.length<9223372036854775807){L:List (List UInt8)}{s:St}{c:Nat}(h4:sget s 4=some (.fix 107 [.mp 3]))(h3:sget s 3=some (.mp (mpS 0 L) L.length)):
  fn (n+9) (j+2) (.fn 60) [.str nm,.ptr 4 0] s c=if mX nm L=0 then .ok (.ret (.tup [])) (sset s 3 (.mp (mpS 0 (L++[nm])) (L.length+1))) c else .ok (.pan (jB 0 (mX nm L))) s c:=by
 rw[iN (A:=A60) rfl rfl rfl rfl (n+9) (j+1) _ s c rfl,show A60.body=B60 from rfl]
 unfold B60 mX;have h61:=c61 n nm hl;have hsn:=mpS_snoc L 0 nm;rw[bK]at hsn;cases hb:iP nm
 ·rw[hb]at h61;simp only[z2,seval,A60,aF (f:=61) rfl,aQ,h61,eY,nb,tX]<;>rfl
 ·rw[hb]at h61;rcases mfind_mpS nm L 0 0 with⟨h1,i,h2⟩|⟨h1,h2⟩
  ·simp only[z2,seval,A60,aF (f:=61) rfl,aQ,h61,eY,nb,h4,h3,h2,aH h1,tX]<;>rfl
  ·simp only[z2,seval,A60,aF (f:=61) rfl,aQ,h61,eY,nb,h4,h3,h2,aD h1,tX,hsn]
def lrC(d e:D)(low pc ec:Nat)(lk:Int)(m v f a:D):List D:=[d,e,.int .i64 1,.int .i64 0,.int .i64 (low:Nat),.int .i64 (low:Nat),.int .i64 (low:Nat),.int .i64 (pc:Nat),.int .i64 (ec:Nat),.int .i64 lk,m,v,f,a]
theorem f133(n j:Nat){ss:List (List UInt8)}{us:List Nat}{d e:D}(h:Lt ss us d e){low pc ec:Nat}{lk:Int}{m v f q:D}{K ty:Nat}{s:St}{c:Nat}(hK:sget s K=some (.fix ty (lrC d e low pc ec lk m v f q))){a b:Nat}(ha:a<us.length)(hb:b<us.length):
  fn (n+1) (j+2) (.fn 133) [.ptr K 0,.int .i64 (a:Nat),.int .i64 (b:Nat)] s c = .ok (.ret (.int .i64 (J us a b:Nat))) s (c+24):=by
 rw[iN (A:=A133) rfl rfl rfl rfl (n+1) (j+1) _ s c rfl,show A133.body=B133 from rfl]
 simp only[B133,Ab.abq];have hul:=h.l;have h8:=h.h8;have hx:∀c (hc:c<us.length),us[c]=uM us c:=fun c hc=>(jX hc 0).symm
 obtain⟨j1,j2⟩:=h.j ha hb;have k1:=c69 n h.e (by omega) a b
 rw[j1]at k1;unfold lrC at hK;simp only[z0,seval,hK,eG,cX,AOp.kd,zop,tks,cC,dW,cT,dP,aU,bN,h.e.ia1 ha,h.e.at1 ha,h.e.ia1 hb,h.e.at1 hb,u8C,hx _ ha,hx _ hb,iG (lI h.u a) (lI h.u b),aF (f:=69) rfl,aQ,h.e.fz,k1,A133]
def mkL(us:List Nat)(lm:List (Int×Int))(x:Int)(now:Nat):List (Int×Int):=match qZ lm x 0 with
 | none=>lm++[(x,(now:Int))]
 | some q=>setM lm q.1 (J us now q.2.toNat:Nat)
def LabN(us:List Nat)(lm:List (Int×Int)):Prop:=∀p∈lm,∃k:Nat,p.2=k∧k<us.length
theorem uB:∀{l:List (Int×Int)} {x:Int} {n:Nat} {q:Nat×Int},qZ l x n=some q→∃p∈l,p.1=x∧p.2=q.2
 | [],_,_,_,h=>by cases h
 | p::r,x,n,q,h=>by
  unfold qZ at h;split at h
  ·rename_i e;cases h;exact⟨p,by simp,e.symm,rfl⟩
  ·obtain⟨p',h1,h2⟩:=uB h;exact⟨p',by simp[h1],h2⟩
set_option maxHeartbeats 1000000 in
theorem f92(n j:Nat){ss:List (List UInt8)}{us:List Nat}{d e:D}(h:Lt ss us d e){low pc ec M:Nat}{lk:Int}{v f q:D}{K ty:Nat}{s:St}{c:Nat}{lm:List (Int×Int)}(hK:sget s K=some (.fix ty (lrC d e low pc ec lk (.mp M) v f q)))(hM:sget s M=some (.mp (mpE 0 lm) lm.length))(hp:pc<us.length)(he:ec<us.length)(hl:LabN us lm)(x:Int):
  ∃c',c≤c'∧fn (n+1) (j+3) (.fn 92) [.ptr K 0,.int .i64 x] s c = .ok (.ret (.tup [])) (sset s M (.mp (mpE 0 (mkL us lm x (J us pc ec))) (mkL us lm x (J us pc ec)).length)) c':=by
 rw[iN (A:=A92) rfl rfl rfl rfl (n+1) (j+2) _ s c rfl,show A92.body=B92 from rfl]
 unfold B92 mkL;obtain⟨j1,j2⟩:=h.j hp he;have hfind:=mfind_mpE x lm 0 0;have hJ:∀{a b c},a<us.length→b<us.length→fn (n+1) (j+2) (.fn 133) [.ptr K 0,.int .i64 (a:Nat),.int .i64 (b:Nat)] s c = .ok (.ret (.int .i64 (J us a b:Nat))) s (c+24):=fun ha hb=>f133 n j h hK ha hb
 cases hq:qZ lm x 0 with
 | none=>
  rw[hq]at hfind;have hsn:=mpE_snoc lm 0 (x,(J us pc ec:Nat));rw[bK]at hsn;have hK':=hK;unfold lrC at hK';simp only[z0,seval,hK',hM,eG,cX,AOp.kd,zop,tks,cC,dW,cT,dP,aU,bN,hJ hp he,hfind,Option.map_none,hsn,cD,cA,dD,A92];exact⟨c+11+24,by omega,rfl⟩
 | some r=>
  rw[hq]at hfind;obtain⟨p',h1,h2,h3⟩:=uB hq;obtain⟨kh,hkh,hkh2⟩:=hl p' h1;have hq2:r.2=(kh:Int):=by rw[←h3,hkh]
  have hJ2:∀c',fn (n+1) (j+2) (.fn 133) [.ptr K 0,.int .i64 (J us pc ec:Nat),.int .i64 (kh:Nat)] s c' = .ok (.ret (.int .i64 (J us (J us pc ec) kh:Nat))) s (c'+24):=fun c'=>f133 n j h hK j2 hkh2
  have hJ1:∀c',fn (n+1) (j+2) (.fn 133) [.ptr K 0,.int .i64 (pc:Nat),.int .i64 (ec:Nat)] s c' = .ok (.ret (.int .i64 (J us pc ec:Nat))) s (c'+24):=fun c'=>f133 n j h hK hp he
  have hK':=hK;unfold lrC at hK';simp only[hq2]at hfind ⊢;simp only[z0,seval,hK',hM,eG,cX,AOp.kd,zop,tks,cC,dW,cT,dP,aU,bN,hJ1,hJ2,hfind,hq2,bJ,cD,cA,cU,mset_mpE,setM_len,A92];refine⟨_,?_,rfl⟩;omega
structure Aft (s:St) (c:Nat) (s':St) (c':Nat):Prop where
 le:c≤c'
 old:∀m,m<c→sget s' m=sget s m
 free:∀m,c'≤m→sget s' m=none
theorem Aft.refl{s:St}{c:Nat}(h:∀m,c≤m→sget s m=none):Aft s c s c:=⟨aJ _,fun _ _=>rfl,h⟩
theorem Aft.add{s s':St}{c c':Nat}(h:Aft s c s' c')(b:Blk):Aft s c (sadd s' c' b) (c'+1):=⟨Nat.le_succ_of_le h.le,fun m hm=>by rw[aW,aD (by have:=h.le;omega)];exact h.old m hm,fun m hm=>by rw[aW,aD (by omega)];exact h.free m (by omega)⟩
theorem Aft.set{s s':St}{c c':Nat}(h:Aft s c s' c'){nm:Nat}(h1:c≤nm)(h2:nm<c')(b:Blk):Aft s c (sset s' nm b) c':=⟨h.le,fun m hm=>by rw[aN,aD (by omega)];exact h.old m hm,fun m hm=>by rw[aN,aD (by omega)];exact h.free m hm⟩
theorem Aft.trans{s s' s2:St}{c c' c2:Nat}(h:Aft s c s' c')(g:Aft s' c' s2 c2):Aft s c s2 c2:=⟨fW h.le g.le,fun m hm=>by rw[g.old m (bY hm h.le),h.old m hm],g.free⟩
def lowC(low:Nat)(k r:Int):D:=.agg [.int .i64 k,.int .i64 r,.int .i64 (low:Nat),.int .i64 (low:Nat),.int .i64 (low:Nat)]
section
variable (n j:Nat) {d e:D} {low pc ec:Nat} {lk:Int} {m v f q:D} {K ty:Nat} {s:St} {c:Nat} (hK:sget s K=some (.fix ty (lrC d e low pc ec lk m v f q))) (hKc:K<c) (hfr:∀m,c≤m→sget s m=none)
include hK hKc hfr
theorem f125(k:Int):∃s' c',fn (n+1) (j+2) (.fn 125) [.ptr K 0,.int .i64 k] s c = .ok (.ret (lowC low k 1)) s' c'∧Aft s c s' c':=by
 rw[iN (A:=A125) rfl rfl rfl rfl (n+1) (j+1) _ s c rfl,show A125.body=B125 from rfl]
 simp only[B125,Ab.abq];unfold lrC at hK;have k0:(K=c)=False:=aL (by omega)
 have k1:(K=c+1)=False:=aL (by omega)
 have k2:(c=c+1)=False:=aL (by omega)
 have k3:(c+1=c)=False:=aL (by omega)
 simp only[z0,seval,hK,k0,k1,k2,k3,dP,A125];exact⟨_,_,rfl,((((((Aft.refl hfr).add _).add _).set (by omega) (by omega) _).set (by omega) (by omega) _).set (by omega) (by omega) _).set (by omega) (by omega) _⟩
theorem f83(x:Nd):∃s' c',fn (n+1) (j+2) (.fn 83) [.ptr K 0,.agg (bU x)] s c = .ok (.ret (lowC low 1 0)) s' c'∧Aft s c s' c':=by
 rw[iN (A:=A83) rfl rfl rfl rfl (n+1) (j+1) _ s c rfl,show A83.body=B83 from rfl]
 simp only[B83,Ab.abq];unfold lrC at hK;have k0:(K=c)=False:=aL (by omega)
 have k1:(K=c+1)=False:=aL (by omega)
 simp only[z0,seval,hK,k0,k1,dP,bU,A83];exact⟨_,_,rfl,(((Aft.refl hfr).add _).add _).set (by omega) (by omega) _⟩
theorem f84(x:Nd):∃s' c',fn (n+1) (j+3) (.fn 84) [.ptr K 0,.agg (bU x)] s c = .ok (.ret (lowC low 1 1)) s' c'∧Aft s c s' c':=by
 rw[iN (A:=A84) rfl rfl rfl rfl (n+1) (j+2) _ s c rfl,show A84.body=B84 from rfl]
 simp only[B84,Ab.abq];have hA:=((Aft.refl hfr).add (.fix 57 (bU x))).add (.fix 37 [.int .i64 0,.int .i64 0,.int .i64 0,.int .i64 0,.int .i64 0]);obtain⟨s',c',h1,h2⟩:=f125 n j (by rw[hA.old K hKc];exact hK) (bY hKc hA.le) hA.free 1
 have h4:sget s' (c+1)=some (.fix 37 [.int .i64 0,.int .i64 0,.int .i64 0,.int .i64 0,.int .i64 0]):=by rw[h2.old (c+1) (by omega)];simp[aE]
 have hle:=h2.le;unfold bU at h1;simp only[z0,seval,bU,h1,h4,lowC,A84];exact⟨_,_,rfl,(hA.trans h2).set (by omega) (by omega) _⟩
theorem f85(x:Nd):∃s' c',fn (n+1) (j+3) (.fn 85) [.ptr K 0,.agg (bU x)] s c = .ok (.ret (lowC low 2 1)) s' c'∧Aft s c s' c':=by
 rw[iN (A:=A85) rfl rfl rfl rfl (n+1) (j+2) _ s c rfl,show A85.body=B85 from rfl]
 simp only[B85,Ab.abq];have hA:=((Aft.refl hfr).add (.fix 57 (bU x))).add (.fix 37 [.int .i64 0,.int .i64 0,.int .i64 0,.int .i64 0,.int .i64 0]);obtain⟨s',c',h1,h2⟩:=f125 n j (by rw[hA.old K hKc];exact hK) (bY hKc hA.le) hA.free 2
 have h4:sget s' (c+1)=some (.fix 37 [.int .i64 0,.int .i64 0,.int .i64 0,.int .i64 0,.int .i64 0]):=by rw[h2.old (c+1) (by omega)];simp[aE]
 have hle:=h2.le;unfold bU at h1;simp only[z0,seval,bU,h1,h4,lowC,A85];exact⟨_,_,rfl,(hA.trans h2).set (by omega) (by omega) _⟩
end
def dQ(l:List Nd):Nat→Nat→Nat
 | 0,_=>0
 | f+1,i=>(kidsL l i).foldl (fun d k=>max d (dQ l f k)) 0+1
theorem xM{α β:Type}{g h:β→α→β}:∀(l:List α) (b:β),(∀a,a∈l→∀b,g b a=h b a)→l.foldl g b=l.foldl h b
 | [],_,_=>rfl
 | a::l,b,H=>by
  rw[List.foldl_cons,List.foldl_cons,H a (bH ..)];exact xM l _ fun x hx=>H x (bG _ hx)
theorem dQ_fuel{l:List Nd}(hg:jS l):∀(f g i:Nat),i<l.length→eN l i≤l.length→l.length≤f+i→l.length≤g+i→dQ l f i=dQ l g i
 | 0,_,i,h,_,hf,_=>by omega
 | _,0,i,h,_,_,hf=>by omega
 | f+1,g+1,i,h,he,hf,hg'=>by
  rw[dQ,dQ,xM _ _ fun k hk d=>?_]
  obtain⟨h1,h2,h3⟩:=kids_in hg h he k hk;rw[dQ_fuel hg f g k h2 h3 (by omega) (by omega)]
def dN(l:List Nd)(i:Nat):Nat:=dQ l l.length i
theorem dN_eq{l:List Nd}(hg:jS l){i:Nat}(h:i<l.length)(he:eN l i≤l.length):dN l i=(kidsL l i).foldl (fun d k=>max d (dN l k)) 0+1:=by
 unfold dN;rw[dQ_fuel hg l.length (l.length+1) i h he (by omega) (by omega),dQ]
def gE(l:List Nd)(i:Nat):Nat:=min (eN l i) l.length
def gK(l:List Nd)(i:Nat):List Nat:=match l[i]? with
 | none=>[]
 | some x=>if fJ x=1 then(if i+1<l.length then[i+1] else[]) else if fJ x=2 then(if i+1<l.length then(if gE l (i+1)<l.length then[i+1,gE l (i+1)] else[i+1]) else[]) else[]
theorem gK_eq{l:List Nd}{i:Nat}(h:i<l.length):gK l i=if fJ l[i]=1 then(if i+1<l.length then[i+1] else[]) else if fJ l[i]=2 then(if i+1<l.length then(if gE l (i+1)<l.length then[i+1,gE l (i+1)] else[i+1]) else[]) else[]:=by rw[gK,aI h]
theorem gE_gt{l:List Nd}{i:Nat}(h:i<l.length):i<gE l i:=by
 unfold gE;have:=eN_gt (l:=l) (i:=i) (by omega)
 omega
theorem gK_in{l:List Nd}{i k:Nat}(h:k∈gK l i):i<k∧k<l.length:=by
 unfold gK at h;cases hx:l[i]? with
 | none=>rw[hx]at h;cases h
 | some x=>
  rw[hx]at h;simp only at h;split at h
  ·split at h
   ·rw[eB.1 h];exact⟨by omega,by assumption⟩
   ·cases h
  ·split at h
   ·split at h
    ·rename_i h1;have:=gE_gt h1;split at h
     ·rcases bL.1 h with rfl|h
      ·exact⟨by omega,by assumption⟩
      ·rw[eB.1 h];exact⟨by omega,by assumption⟩
     ·rw[eB.1 h];exact⟨by omega,by assumption⟩
    ·cases h
   ·cases h
def gDF(l:List Nd):Nat→Nat→Nat
 | 0,_=>0
 | f+1,i=>(gK l i).foldl (fun d k=>max d (gDF l f k)) 0+1
theorem gDF_fuel{l:List Nd}:∀(f g i:Nat),i<l.length→l.length≤f+i→l.length≤g+i→gDF l f i=gDF l g i
 | 0,_,i,h,hf,_=>by omega
 | _,0,i,h,_,hf=>by omega
 | f+1,g+1,i,h,hf,hg=>by
  rw[gDF,gDF,xM _ _ fun k hk d=>?_]
  obtain⟨h1,h2⟩:=gK_in hk;rw[gDF_fuel f g k h2 (by omega) (by omega)]
def gD(l:List Nd)(i:Nat):Nat:=gDF l l.length i
theorem gD_eq{l:List Nd}{i:Nat}(h:i<l.length):gD l i=(gK l i).foldl (fun d k=>max d (gD l k)) 0+1:=by
 unfold gD;rw[gDF_fuel l.length (l.length+1) i h (by omega) (by omega),gDF]
theorem gD_le{l:List Nd}:∀(f i:Nat),i<l.length→l.length≤f+i→gD l i≤f
 | 0,i,h,hf=>by omega
 | f+1,i,h,hf=>by
  rw[gD_eq h];have:∀(K:List Nat) (d:Nat),d≤f→(∀k∈K,gD l k≤f)→K.foldl (fun d k=>max d (gD l k)) d≤f:=by
   intro K
   induction K with
   | nil=>exact fun d hd _=>hd
   | cons a K ih=>exact fun d hd hk=>ih _ (Nat.max_le.2 ⟨hd,hk a (bH ..)⟩) fun k hk'=>hk k (bG _ hk')
  have:=this (gK l i) 0 (dK _) fun k hk=>by
   obtain⟨h1,h2⟩:=gK_in hk;exact gD_le f k h2 (by omega)
  omega
theorem gK_kids{l:List Nd}(hg:jS l){i:Nat}(h:i<l.length)(he:eN l i≤l.length):gK l i=kidsL l i:=by
 have hin:=kids_in hg h he;rw[kidsL_eq h]at hin ⊢;rw[gK_eq h];rcases oE (hg.nd i h) with hm|hm|hm<;>rw[hm]at hin ⊢
 ·rfl
 ·have:=hin (i+1) (by simp)
  rw[aH rfl,aH this.2.1];rfl
 ·have h1:=hin (i+1) (by simp)
  have h2:=hin (eN l (i+1)) (by simp)
  have e:gE l (i+1)=eN l (i+1):=by unfold gE;omega
  rw[aD (by decide),aH rfl,aH h1.2.1,e,aH h2.2.1];rfl
theorem gD_dN{l:List Nd}(hg:jS l):∀(f i:Nat),i<l.length→eN l i≤l.length→l.length≤f+i→gD l i=dN l i
 | 0,i,h,_,hf=>by omega
 | f+1,i,h,he,hf=>by
  rw[gD_eq h,dN_eq hg h he,gK_kids hg h he,xM _ _ fun k hk d=>?_]
  obtain⟨h1,h2,h3⟩:=kids_in hg h he k hk;rw[gD_dN hg f k h2 h3 (by omega)]
theorem gE_eq{l:List Nd}(hg:jS l){i:Nat}(h:i<l.length):gE l i=if l[i].kind=3 then i+1+l[i].kids.toNat else if fJ l[i]=1 then(if i+1<l.length then gE l (i+1) else i+1) else if fJ l[i]=2 then(if i+1<l.length then(if gE l (i+1)<l.length then gE l (gE l (i+1)) else gE l (i+1)) else i+1) else i+1:=by
 have hE:=eN_eq h;have h1:=eN_le hg i;have h2:=eN_le hg (i+1);have h3:=eN_gt (l:=l) (i:=i+1) (by omega)
 have hg1:∀j,gE l j=min (eN l j) l.length:=fun _=>rfl
 by_cases k3:l[i].kind=3
 ·rw[aH k3]at hE ⊢;have:=hg.ls i h k3;rw[hg1,hE];omega
 rw[aD k3]at hE ⊢;by_cases m1:fJ l[i]=1
 ·rw[aH m1]at hE ⊢;by_cases hi:i+1<l.length
  ·rw[aH hi,hg1,hg1,hE]
  ·rw[aD hi,hg1,hE,eN_ge (by omega)];omega
 rw[aD m1]at hE ⊢;by_cases m2:fJ l[i]=2
 ·rw[aH m2]at hE ⊢;by_cases hi:i+1<l.length
  ·rw[aH hi];by_cases hx:eN l (i+1)<l.length
   ·have e:gE l (i+1)=eN l (i+1):=by rw[hg1];omega
    rw[aH (by omega)]at hE
    rw[e,aH hx,hg1,hg1,hE]
   ·have e:gE l (i+1)=l.length:=by rw[hg1];omega
    rw[e,aD (by omega),hg1,hE]
    split
    ·rw[eN_ge (by omega)];omega
    ·omega
  ·rw[aD hi,hg1,hE,eN_ge (show l.length≤i+1 by omega),aD (by omega)];omega
 ·rw[aD m2]at hE ⊢;rw[hg1,hE];omega
def rg(n:Nat)(f:Nat→D):List D:=(List.range n).map f
theorem rg_len(n:Nat)(f:Nat→D):(rg n f).length=n:=by simp[rg]
theorem vE{n i:Nat}(h:i<n)(f:Nat→D):(rg n f)[i]?=some (f i):=by simp[rg,h]
theorem rg_set(n i:Nat)(f:Nat→D)(v:D):eS (rg n f) i [v]=rg n fun j=>if j=i then v else f j:=by
 show(rg n f).set i v=_;refine List.ext_getElem? fun j=>?_
 unfold rg;rw[List.getElem?_set];by_cases hj:j<n
 ·by_cases hi:i=j
  ·subst hi;simp[hj]
  ·have:¬j=i:=fun h=>hi h.symm
   simp[hj,hi,this]
 ·have:¬(i=j∧j<n):=fun h=>hj h.2
  simp[hj];intro h;omega
theorem rg_congr{n:Nat}{f g:Nat→D}(h:∀j,j<n→f j=g j):rg n f=rg n g:=List.map_congr_left fun j hj=>h j (List.mem_range.1 hj)
theorem rep_rg(n:Nat)(d:D):rep n [d]=rg n fun _=>d:=by
 induction n with
 | zero=>rfl
 | succ n ih => 
  show[d]++rep n [d]=_;rw[ih];unfold rg;rw[List.range_succ_eq_map,bW,List.map_map];rfl
theorem ia_ms{n i:Nat}(h:i<n)(e m:Nat):kE 1 (.ms e 0 1 n m) (.int .i64 (i:Nat))=some (.ptr e i):=by
 unfold kE;simp only[fM h,aB,aO,fG,aS,dL,bK]
def kG(l:List Nd)(i:Nat):Option D:=match l[i]? with
 | some x=>if mJ x=0 then none else some (e2 i (mJ x))
 | none=>none
def lJ(l:List Nd)(i:Nat):Option D:=match l[i]? with
 | some x=>if x.kind=3∧nV l i x.kids.toNat=false then some (e2 i 6) else none
 | none=>none
def oB(l:List Nd):D:=if l.length<eN l 0 then e2 l.length 6 else if eN l 0<l.length then e2 (eN l 0) 6 else if 24<dN l 0 then e2 0 3 else e2 0 0
def exD(l:List Nd):D:=if l.length=0 then e2 0 6 else if 400<l.length then e2 0 3 else scan (kG l) (scan (lJ l) (oB l) l.length 0) l.length 0
def NdOk(l:List Nd):Prop:=∀x∈l,x.name.length<9223372036854775807∧x.text.length<4294967296
theorem listed_le{l:List Nd}{i k:Nat}(hi:i<l.length)(h:nV l i k=true):i+1+k≤l.length:=by
 cases k with
 | zero=>omega
 | succ k=>
  have:=iZ.1 h k (by omega)
  refine Classical.byContradiction fun hc=>?_
  rw[numB_ge (by omega)]at this
  cases this
theorem goodL_of{l:List Nd}(h1:∀j,j<l.length→kG l j=none)(h2:∀j,j<l.length→lJ l j=none):jS l:=by
 have hw:∀i (h:i<l.length),mJ l[i]=0:=fun i h=>by
  have:=h1 i h;unfold kG at this;rw[aI h]at this;simp only at this;split at this
  ·assumption
  ·cases this
 refine⟨fun i h=>good_of (hw i h),fun i h h3=>listed_le h ?_⟩
 have:=h2 i h;unfold lJ at this;rw[aI h]at this;simp only at this;split at this
 ·cases this
 ·rename_i hn;cases hb:nV l i l[i].kids.toNat
  ·exact absurd ⟨h3,hb⟩ hn
  ·rfl
theorem f121(n j:Nat)(x:Nd)(st:St)(c:Nat):fn n (j+1) (.fn 121) [.agg (bU x)] st c = .ok (.ret (.bool !decide (x.kind=1))) (sadd st c (.fix 57 (bU x))) (c+1):=by
 rw[iN (f:=121) (A:=A121) rfl rfl rfl rfl n j _ _ _ rfl,show A121.body=B121 from rfl]
 unfold B121 bU;simp only[z0,↓reduceIte,Nat.reduceEqDiff,Nat.reduceAdd,Nat.reduceLeDiff,reduceCtorEq,nb,A121]
theorem f120(n j:Nat){l:List Nd}{d:D}(hd:Sl 7 bU l d)(hl:l.length<9223372036854775807){st:St}{c:Nat}:
  ∃(st':St) (c':Nat),fn n (j+4) (.fn 120) [d,.fn (.func 121) [] []] st c = .ok (.ret (.bool !(allN l.length (sX l)))) st' c'∧c≤c'∧(∀x,x<c→sget st' x=sget st x)∧∀m,c'≤m→(∀k,c≤k→sget st k=none)→sget st' m=none:=by
 have main:∃(st':St) (c':Nat),fn n (j+3) (.fn 165) [d,.fn (.func 121) [] []] st c = .ok (.ret (.int .i64 (scan (fun i=>if sX l i=true then none else some (i:Int)) (-1) l.length 0))) st' c'∧c≤c'∧(∀x,x<c→sget st' x=sget st x)∧∀m,c'≤m→(∀k,c≤k→sget st k=none)→sget st' m=none:=by
  rw[iN (f:=165) (A:=A165) rfl rfl rfl rfl n (j+2) _ _ _ rfl,show A165.body=B165 from rfl]
  simp only[B165,Ab.abq];simp only[z0,↓reduceIte,Nat.reduceEqDiff,Nat.reduceAdd,Nat.reduceLeDiff,reduceCtorEq,hd.len];generalize hz:zloop KK _ _=rl
  refine zrange rl hz l.length (fQ hl) hl (fun i t s c'=>tget t 0=d∧tget t 1 = .fn (.func 121) [] []∧c≤c'∧(∀x,x<c→sget s x=sget st x)∧(∀m,c'≤m→(∀k,c≤k→sget st k=none)→sget s m=none)∧∀j,j<i→(if sX l j=true then none else some (j:Int))=none) (by decide) (by simp[aE]) (by simp[aE]) (by simp[aE];exact fun m hm hk=>hk m hm) ?_ ?_
  ·rintro i t s c1 hi ⟨q0,q1,hc,hfr,hfree,hn⟩ hti htn;have hrow:=hd.row hi;have hnB:=numB_lt hi;have h121:=f121 n (j+1) l[i] s c1;cases hb:decide (l[i].kind=1)
   ·rw[hb]at hnB h121;simp only[z2,↓reduceIte,Nat.reduceEqDiff,Nat.reduceAdd,Nat.reduceLeDiff,reduceCtorEq,q0,q1,hti,htn,hd.ia hi,hrow,uQ,cf_fn,h121,nb,A165];refine⟨_,_,by rw[fZ hi (aD (by rw[hnB];decide)) hn],by omega,fun x hx=>by rw[aW,aD (by omega)];exact hfr x hx,fun m hm hk=>by rw[aW,aD (by omega)];exact hfree m (by omega) hk⟩
   ·rw[hb]at hnB h121;simp only[z2,↓reduceIte,Nat.reduceEqDiff,Nat.reduceAdd,Nat.reduceLeDiff,reduceCtorEq,q0,q1,hti,htn,hd.ia hi,hrow,uQ,cf_fn,h121,nb];exact⟨trivial,trivial,trivial,.inr (.inr trivial),by decide,by decide,trivial,trivial,by omega,fun x hx=>by rw[aD (by omega)];exact hfr x hx,fun m hm hk=>by rw[aD (by omega)];exact hfree m (by omega) hk,eH hn (aH hnB)⟩
  ·rintro t s c1 ⟨q0,q1,hc,hfr,hfree,hn⟩ hti htn;simp only[z2,↓reduceIte,Nat.reduceEqDiff,Nat.reduceAdd,Nat.reduceLeDiff,reduceCtorEq,q0,q1,hti,htn,A165];exact⟨s,c1,by rw[gU hn],hc,hfr,hfree⟩
 obtain⟨st',c',h165,hc,hfr,hfree⟩:=main;refine⟨st',c',?_,hc,hfr,hfree⟩;rw[iN (f:=120) (A:=A120) rfl rfl rfl rfl n (j+3) _ _ _ rfl,show A120.body=B120 from rfl]
 simp only[B120,Ab.abq];rcases eR (fun i=>if sX l i=true then none else some (i:Int)) (-1) l.length 0 with⟨h1,h2⟩|⟨m,r,_,h2,h3,_,h5⟩
 ·rw[h2]at h165;rw[show allN l.length (sX l)=true from iZ.2 fun i hi=>by
   have:=h1 i (by omega) (by omega)
   cases hb:sX l i
   ·rw[hb]at this;cases this
   ·rfl]
  simp only[z2,↓reduceIte,Nat.reduceEqDiff,Nat.reduceAdd,Nat.reduceLeDiff,reduceCtorEq,h165,A120];rfl
 ·rw[h5]at h165;have hb:sX l m=false:=by
   cases hb:sX l m
   ·rfl
   ·rw[hb]at h3;cases h3
  rw[hb]at h3;cases h3;rw[tP (show m<l.length by omega) hb]
  simp only[z2,↓reduceIte,Nat.reduceEqDiff,Nat.reduceAdd,Nat.reduceLeDiff,reduceCtorEq,h165,show decide ((0:Int)≤(m:Int))=true from bD (by omega),A120]
theorem B122_eq:B122=(.seq (.reg none [⟨(some 2),(.new 135 (.c (.agg [.nils,.nils,.nils,.nils]))),none⟩,⟨(some 3),(.mv (.c (.bool false))),none⟩]) (.seq (.reg none [⟨(some 12),(.mv (.t 0)),none⟩,⟨(some 13),(.len false (.t 12)),none⟩,⟨(some 4),(.mv (.t 13)),none⟩]) (.seq (.reg (some [(0,0),(1,0),(2,0),(3,0),(4,0),(5,0),(6,0),(7,0),(8,0),(9,0)]) [⟨(some 14),(.mv (.t 4)),none⟩,⟨(some 15),(.mks 1 8 [(.int .i64 0)] (.t 14) (.t 14)),none⟩,⟨(some 16),(.mv (.t 4)),none⟩,⟨(some 17),(.mks 1 8 [(.int .i64 0)] (.t 16) (.t 16)),none⟩,⟨(some 18),(.mv (.t 4)),none⟩,⟨(some 19),(.mks 1 24 [.nils] (.t 18) (.t 18)),none⟩,⟨(some 20),(.mv (.t 4)),none⟩,⟨(some 21),(.mks 1 1 [(.bool false)] (.t 20) (.t 20)),none⟩,⟨(some 22),(.bld [.nils,.nils,.nils,.nils] [(0,1,(.t 15)),(1,1,(.t 17)),(2,1,(.t 19)),(3,1,(.t 21))]),none⟩,⟨none,(.st 4 (.t 2) (.t 22)),none⟩]) (.seq Y0 Y1)))):=rfl
structure GS (L:Nat) (fE fD fK fN:Nat→D) (s:St):Prop where
 b0:sget s 0=some (.fix 135 [.ms 2 0 1 L L,.ms 4 0 1 L L,.ms 6 0 1 L L,.ms 8 0 1 L L])
 be:sget s 2=some (.fix 0 (rg L fE))
 bd:sget s 4=some (.fix 0 (rg L fD))
 bk:sget s 6=some (.fix 0 (rg L fK))
 bn:sget s 8=some (.fix 0 (rg L fN))
theorem GS.add{L:Nat}{fE fD fK fN:Nat→D}{s s':St}(h:GS L fE fD fK fN s)(hs:∀m,m<11→sget s' m=sget s m):GS L fE fD fK fN s':=
 ⟨by rw[hs 0 (by decide)];exact h.b0,by rw[hs 2 (by decide)];exact h.be,by rw[hs 4 (by decide)];exact h.bd,by rw[hs 6 (by decide)];exact h.bk,by rw[hs 8 (by decide)];exact h.bn⟩
theorem GS.setN{L:Nat}{fE fD fK fN:Nat→D}{s:St}(h:GS L fE fD fK fN s)(g:Nat→D):GS L fE fD fK g (sset s 8 (.fix 0 (rg L g))):=by
 refine⟨?_,?_,?_,?_,?_⟩<;>rw[aN]<;>simp only[Nat.reduceEqDiff,↓reduceIte]
 ·exact h.b0
 ·exact h.be
 ·exact h.bd
 ·exact h.bk
theorem GS.setE{L:Nat}{fE fD fK fN:Nat→D}{s:St}(h:GS L fE fD fK fN s)(g:Nat→D):GS L g fD fK fN (sset s 2 (.fix 0 (rg L g))):=by
 refine⟨?_,?_,?_,?_,?_⟩<;>rw[aN]<;>simp only[Nat.reduceEqDiff,↓reduceIte]
 ·exact h.b0
 ·exact h.bd
 ·exact h.bk
 ·exact h.bn
theorem GS.setD{L:Nat}{fE fD fK fN:Nat→D}{s:St}(h:GS L fE fD fK fN s)(g:Nat→D):GS L fE g fK fN (sset s 4 (.fix 0 (rg L g))):=by
 refine⟨?_,?_,?_,?_,?_⟩<;>rw[aN]<;>simp only[Nat.reduceEqDiff,↓reduceIte]
 ·exact h.b0
 ·exact h.be
 ·exact h.bk
 ·exact h.bn
theorem GS.setK{L:Nat}{fE fD fK fN:Nat→D}{s:St}(h:GS L fE fD fK fN s)(g:Nat→D):GS L fE fD g fN (sset s 6 (.fix 0 (rg L g))):=by
 refine⟨?_,?_,?_,?_,?_⟩<;>rw[aN]<;>simp only[Nat.reduceEqDiff,↓reduceIte]
 ·exact h.b0
 ·exact h.be
 ·exact h.bd
 ·exact h.bn
def lsB(l:List Nd)(q j:Nat):Bool:=match l[q]? with
 | some x=>decide (x.kind=3)&&decide (q<j∧j≤q+x.kids.toNat)
 | none=>false
def nbB(l:List Nd)(i j:Nat):Bool:=(List.range i).any fun q=>lsB l q j
theorem nbB_succ(l:List Nd)(i j:Nat):nbB l (i+1) j=(nbB l i j||lsB l i j):=by simp[nbB,List.range_succ]
def mD(f:Nat→Bool):Nat→D:=fun j=>.bool (f j)
theorem Y0_ok(n:Nat){l:List Nd}{d:D}(hd:Sl 7 bU l d)(hg:jS l)(hl:l.length≤400){fE fD fK:Nat→D}{t:Tm}{s:St}{c:Nat}(hS:GS l.length fE fD fK (mD fun _=>false) s)(hc:11≤c)(hfr:∀m,c≤m→sget s m=none)
  (q0:tget t 0=d) (q2:tget t 2 = .ptr 0 0) (q3:tget t 3 = .bool false) (q4:tget t 4 = .int .i64 (l.length:Nat)) :
  ∃t' s' c',zC Y0 (cxn (n+1)) (fn (n+1) 4096) KK ⟨t,s,c,[],none⟩ = .ok .normal ⟨t',s',c',[],none⟩∧GS l.length fE fD fK (mD (nbB l l.length)) s'∧11≤c'∧(∀m,c'≤m→sget s' m=none)∧tget t' 0=d∧tget t' 2 = .ptr 0 0∧tget t' 3 = .bool false∧tget t' 4 = .int .i64 (l.length:Nat):=by
 simp only[Y0,Ab.abq];simp only[z2,seval,q0,hd.len];generalize hz:zloop KK _ _=rl;refine zrange rl hz l.length (fQ (by omega)) (by omega) (fun i t s c=>GS l.length fE fD fK (mD (nbB l i)) s∧11≤c∧(∀m,c≤m→sget s m=none)∧tget t 0=d∧tget t 2 = .ptr 0 0∧tget t 3 = .bool false∧tget t 4 = .int .i64 (l.length:Nat)∧tget t 23=d) (by decide) (by simp[aE]) (by simp[aE])
  ⟨hS,hc,hfr,by simp[aE,q0],by simp[aE,q2],by simp[aE,q3],by simp[aE,q4],by simp[aE]⟩ ?_ ?_
 ·clear q0 q2 q3 q4 hc hfr hS hz;rintro i t s c hi ⟨hS,hc,hfr,q0,q2,q3,q4,q23⟩ hti htn;have hrow:dE (l.map bU).flatten (i*7) (some 7)=some (.agg [.int .i64 l[i].kind,.int .i64 l[i].prim,.int .i64 l[i].kids,.str l[i].name,.str l[i].text,.int .i64 l[i].n,.int .i64 l[i].site]):=hd.row hi;by_cases h3:l[i].kind=3
  ·obtain⟨k0,k4⟩:=(hg.nd i hi).k3 h3;have hls:=hg.ls i hi h3;have w0:dJ .i64 ((i:Int)+1)=((i+1:Nat):Int):=kV (by omega)
   have wk:dJ .i64 ((i:Int)+l[i].kids)=((i+l[i].kids.toNat:Nat):Int):=by rw[gT (by omega) (by omega)];omega
   have hnb:nbB l (i+1)=fun q=>nbB l i q||decide (i<q∧q≤i+l[i].kids.toNat):=by
    funext j
    rw[nbB_succ,lsB,aI hi];simp[h3]
   have hb0:(mD fun q=>nbB l i q||decide (i<q∧q≤i+0))=mD (nbB l i):=by
    unfold mD;funext q
    simp only[show decide (i<q∧q≤i+0)=false from aK (by omega),Bool.or_false]
   simp only[z2,seval,q0,q2,q3,q4,q23,hti,htn,hd.ia hi,hrow,bD h3,w0];generalize hz:zloop KK _ _=rl
   refine zwhile rl hz l[i].kids.toNat (fQ (by omega)) (fun j z=>∃t s c',z=⟨t,s,c',[],none⟩∧GS l.length fE fD fK (mD fun q=>nbB l i q||decide (i<q∧q≤i+j)) s∧sget s c=some (.fix 57 [.int .i64 l[i].kind,.int .i64 l[i].prim,.int .i64 l[i].kids,.str l[i].name,.str l[i].text,.int .i64 l[i].n,.int .i64 l[i].site])∧c<c'∧(∀m,c'≤m→sget s m=none)∧tget t 0=d∧tget t 2 = .ptr 0 0∧tget t 3 = .bool false∧tget t 4 = .int .i64 (l.length:Nat)∧tget t 23=d∧tget t 24 = .int .i64 (l.length:Nat)∧tget t 25 = .int .i64 (i:Nat)∧tget t 5 = .int .i64 (i:Nat)∧tget t 6 = .ptr c 0∧tget t 7 = .int .i64 ((i+1+j:Nat):Int))
    ⟨_,_,_,rfl,by rw[hb0];exact hS.add fun m hm=>by simp only[aE];rw[aD (by omega),aD (by omega)],by simp[aE],Nat.lt_succ_self c,fun m hm=>by simp only[aE];rw[aD (by omega),aD (by omega)];exact hfr m (by omega),by simp[aE,q0],by simp[aE,q2],by simp[aE,q3],by simp[aE,q4],by simp[aE,q23],by simp[aE,htn],by simp[aE,hti],by simp[aE],by simp[aE],by simp[aE]⟩ ?_
   clear q0 q2 q3 q4 q23 hti htn hS hfr hz;rintro j z hj ⟨t,s,c',rfl,hS,hsc,hc',hfr,q0,q2,q3,q4,q23,q24,q25,q5,q6,q7⟩;have hx0:=hS.b0;have hx8:=hS.bn;by_cases hjk:j<l[i].kids.toNat
   ·have hle:decide (((i+1+j:Nat):Int)≤((i+l[i].kids.toNat:Nat):Int))=true:=dT (by omega)
    have w1:dJ .i64 (((i+1+j:Nat):Int)+1)=((i+1+(j+1):Nat):Int):=kV (by omega)
    simp only[z2,seval,q0,q2,q3,q4,q23,q24,q25,q5,q6,q7,hsc,hx0,hx8,wk,w1,hle,ia_ms (show i+1+j<l.length by omega),rg_len,show i+1+j+1≤l.length from by omega]
    have hnx:(rg l.length (mD fun q=>nbB l i q||decide (i<q∧q≤i+j))).set (i+1+j) (.bool true)=rg l.length (mD fun q=>nbB l i q||decide (i<q∧q≤i+(j+1))):=(rg_set _ _ _ _).trans (rg_congr fun q hq=>by
     unfold mD;by_cases e:q=i+1+j
     ·rw[aH e];dsimp only;rw[show decide (i<q∧q≤i+(j+1))=true from bD (by omega),Bool.or_true]
     ·rw[aD e];dsimp only;rw[show decide (i<q∧q≤i+(j+1))=decide (i<q∧q≤i+j) from by rw[decide_eq_decide];omega])
    rw[hnx];exact⟨hjk,_,_,_,rfl,hS.setN _,by rw[aN,aD (by omega)];exact hsc,hc',fun m hm=>by rw[aN,aD (by omega)];exact hfr m hm,by simp[aE,q0],by simp[aE,q2],by simp[aE,q3],by simp[aE,q4],by simp[aE,q23],by simp[aE,q24],by simp[aE,q25],by simp[aE,q5],by simp[aE,q6],by simp[aE]⟩
   ·have hle:decide (((i+1+j:Nat):Int)≤((i+l[i].kids.toNat:Nat):Int))=false:=dF (by omega)
    have:j=l[i].kids.toNat:=by omega
    subst this;simp only[z2,seval,q0,q2,q3,q4,q23,q24,q25,q5,q6,q7,hsc,hx0,hx8,wk,hle];rw[hnb];exact⟨trivial,trivial,trivial,.inr (.inr trivial),by decide,by decide,hS,by omega,hfr,trivial,trivial,trivial,trivial,trivial⟩
  ·have hnb:nbB l (i+1)=nbB l i:=by
    funext j
    rw[nbB_succ,lsB,aI hi];simp[h3]
   simp only[z2,seval,q0,q2,q3,q4,q23,hti,htn,hd.ia hi,hrow,aK h3];rw[hnb];refine⟨trivial,trivial,trivial,.inr (.inr trivial),by decide,by decide,hS.add fun m hm=>?_,by omega,fun m hm=>?_,trivial,trivial,trivial,trivial,trivial⟩
   ·rw[aN,aD (by omega),aW,aD (by omega)]
   ·rw[aD (by omega),aD (by omega)];exact hfr m (by omega)
 ·rintro t s c ⟨hS,hc,hfr,q0,q2,q3,q4,q23⟩ hti htn;simp only[z2,seval];exact⟨_,_,_,rfl,hS,hc,hfr,by simp[aE,q0],by simp[aE,q2],by simp[aE,q3],by simp[aE,q4]⟩
theorem lG.cellsq{α:Type}{w:Nat}{e:α→List D}{B:Nat}{s:St}{q:D}{l:List α}(h:lG w e B s q l):q.cells?=some [q]:=by
 rcases h with⟨rfl,rfl⟩|⟨m,_,rfl,_,rfl⟩|⟨m,ty,_,rfl,_,_⟩<;>rfl
def eF(l:List Nd)(i j:Nat):D:=if i≤j then .int .i64 (gE l j:Nat) else .int .i64 0
def dFn(l:List Nd)(i j:Nat):D:=if i≤j then .int .i64 (gD l j:Nat) else .int .i64 0
def upF(f:Nat→D)(i:Nat)(v:D)(j:Nat):D:=if j=i then v else f j
theorem rg_upd(n i:Nat)(f:Nat→D)(v w:D):(rg n (upF f i v)).set i w=rg n (upF f i w):=
 (rg_set _ _ _ _).trans (rg_congr fun j _=>by unfold upF;split<;>rfl)
theorem app_at{B:Nat}{t:Tm}{s:St}{c nm C:Nat}{dd:List (D×List D)}{r:Option Nat}{q:D}{L:List Nat}{k ty ty':Nat}{b:D}{A:Option (D×AS)}(hA:nG ⟨t,sadd s nm (.fix ty' [b]),C,dd,r⟩ 1 8 ty q (.ms nm 0 1 1 1)=A)(hb:b = .int .i64 (k:Nat))(hO:lG 1 jK B s q L)(hL:L.length<4294967295)(hc:B≤c)(hn:c≤nm)(hC:nm<C)(hfr:∀m,c≤m→sget s m=none):
  ∃q' s' c',A=some (q',⟨t,s',c',dd,r⟩)∧lG 1 jK B s' q' (L++[k])∧C≤c'∧(∀m,m<B→sget s' m=sget s m)∧∀m,c'≤m→sget s' m=none:=by
 subst hb;subst hA;obtain⟨q',s',c',h1,h2,h3,h4,h5⟩:=wZ uI (B:=B) (l:=L) (l':=[k]) (sz:=8) (ty:=ty) (by decide) (x:=⟨t,sadd s nm (.fix ty' [.int .i64 (k:Nat)]),C,dd,r⟩) (q:=q) (b:=.ms nm 0 1 1 1) rfl
  (hO.keep fun m b _ hb=>by simp only[aE];rw[aD (by intro e;rw[e,hfr _ hn]at hb;cases hb)];exact hb) (by simp only[cZ,aE,↓reduceIte];rfl) (by simp only[aU,bN];omega) (by simp only;omega)
  (fun m hm=>by simp only at hm;simp only[aE];rw[aD (by omega)];exact hfr m (by omega))
 exact⟨q',s',c',h1,h2,h3,fun m hm=>by rw[h4 m hm];simp only[aE];rw[aD (by omega)],h5⟩
theorem YB_ok(n:Nat){l:List Nd}{d:D}(hl:l.length≤400){i at_ cur c0:Nat}{fK fN:Nat→D}{q:D}{Kc:List Nat}{t:Tm}{s:St}{c:Nat}
  (hS:GS l.length (eF l (i+1)) (upF (dFn l (i+1)) i (.int .i64 (cur:Nat))) (upF fK i q) fN s) (hO:lG 1 jK c0 s q Kc) (h11:11≤c0) (hc0:c0≤c) (hfr:∀m,c≤m→sget s m=none) (hi:i<at_) (hat:at_<l.length) (hK:Kc.length≤4) (hcur:cur≤1000)
  (q0:tget t 0=d) (q2:tget t 2 = .ptr 0 0) (q4:tget t 4 = .int .i64 (l.length:Nat)) (q8:tget t 8 = .int .i64 (i:Nat)) (q9:tget t 9 = .int .i64 (at_:Nat)) :
  ∃t' s' c' q',zC YB (cxn (n+1)) (fn (n+1) 4096) KK ⟨t,s,c,[],none⟩ = .ok .normal ⟨t',s',c',[],none⟩∧GS l.length (eF l (i+1)) (upF (dFn l (i+1)) i (.int .i64 (max cur (gD l at_):Nat))) (upF fK i q') fN s'∧lG 1 jK c0 s' q' (Kc++[at_])∧c≤c'∧(∀m,c'≤m→sget s' m=none)∧(∀m,11≤m→m<c0→sget s' m=sget s m) ∧
   tget t' 9 = .int .i64 (gE l at_:Nat)∧∀k,k=0∨k=2∨k=3∨k=4∨k=8∨k=82∨k=83→tget t' k=tget t k:=by
 simp only[YB,Ab.abq];have hge:decide ((l.length:Int)≤(at_:Nat))=false:=dF (by omega)
 have x0:=hS.b0;have x2:=hS.be;have x4:=hS.bd;have x6:=hS.bk;have hno:∀m,c≤m→sget s m=none:=hfr
 have gK0:(rg l.length (upF fK i q))[i]?=some q:=by rw[vE (by omega)];unfold upF;rw[aH rfl]
 simp only[z2,seval,q0,q2,q4,q8,q9,hge,nb,eG,cX,AOp.kd,zop,tks,cC,dW,cT,x0,x2,x4,x6,ia_ms (show i<l.length by omega),ia_ms hat,gK0,hno (c+9) (by omega),bQ]
 generalize hA:nG _ 1 8 4 _ _=A;obtain⟨q',s',c',rfl,hO',hc',hfs,hfr'⟩:=app_at (B:=c0) (k:=at_) hA rfl hO (by omega) hc0 (by omega) (by simp only[aU,bN];omega) hfr
 clear hA;simp only[aU,bN]at hc';have hS':GS l.length (eF l (i+1)) (upF (dFn l (i+1)) i (.int .i64 (cur:Nat))) (upF fK i q) fN s':=hS.add fun m hm=>hfs m (by omega)
 have y0:=hS'.b0;have y2:=hS'.be;have y4:=hS'.bd;have y6:=hS'.bk;have z4:(rg l.length (upF (dFn l (i+1)) i (.int .i64 (cur:Nat))))[i]?=some (.int .i64 (cur:Nat)):=by rw[vE (by omega)];unfold upF;rw[aH rfl]
 have z4':(rg l.length (upF (dFn l (i+1)) i (.int .i64 (cur:Nat))))[at_]?=some (.int .i64 (gD l at_:Nat)):=by rw[vE hat];unfold upF dFn;rw[aD (by omega),aH (by omega)]
 have zq2:(rg l.length (eF l (i+1)))[at_]?=some (.int .i64 (gE l at_:Nat)):=by rw[vE hat];unfold eF;rw[aH (by omega)]
 simp only[z2,seval,q0,q2,q4,q8,q9,hge,nb,eG,cX,AOp.kd,zop,tks,cC,dW,cT,x0,x2,x4,x6,y0,y2,y4,y6,ia_ms (show i<l.length by omega),ia_ms hat,gK0,hO'.cellsq,hO'.nag,rg_len,show i+1≤l.length from by omega,rg_upd,z4,z4',zq2,step_mm]
 have hmx:(if((gD l at_:Nat):Int)>(cur:Nat) then((gD l at_:Nat):Int) else(cur:Int))=((max cur (gD l at_):Nat):Int):=by split<;>omega
 rw[hmx];refine⟨_,_,_,q',rfl,(hS'.setK _).setD _,hO'.keep fun m b hm hb=>?_,by omega,fun m hm=>?_,fun m h1 h2=>?_,by simp[aE],?_⟩
 ·rw[aN,aD (by omega),aN,aD (by omega)];exact hb
 ·rw[aN,aD (by omega),aN,aD (by omega)];exact hfr' m (by simp only[aU,bN]at hm;omega)
 ·rw[aN,aD (by omega),aN,aD (by omega)];exact hfs m h2
 ·rintro k (rfl|rfl|rfl|rfl|rfl|rfl|rfl)<;>simp[aE]
end
end Zv
