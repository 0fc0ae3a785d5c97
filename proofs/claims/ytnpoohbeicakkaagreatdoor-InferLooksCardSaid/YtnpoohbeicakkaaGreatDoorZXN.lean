/- InferLooks: the law says true. Conditions: none. -/
import Derived.Test.YtnpoohbeicakkaaGreatDoorZAZ
set_option linter.unusedVariables false
set_option linter.unusedSimpArgs false
set_option linter.unusedSectionVars false
set_option maxRecDepth 100000
namespace Zv
open Go
noncomputable section
theorem c3(n:Nat){ss:List (List UInt8)}{us:List Nat}{d e v f dx:D}{vs:List Vr}{fs:List Fd}{x:List Nd}(hd:Sl 1 fM ss d)(he:Sl 1 u8C us e)(hu:fY us)(hv:Sl 6 vrC vs v)(hf:Sl 3 fdC fs f)(Gr:∀x∈fs,FdIn x)(hx:Sl 7 bK x dx)(pc ec:Int):
  cl (n+408) 3 [.agg [d,e,v,f],.agg [.int .i64 pc,.int .i64 ec],dx]=some (.bool true,true):=by
 rw[nY 3 A3 B3];have zY:cX [d,e,v,f] 0 (some 4)=some (.agg [d,e,v,f]):=rfl;obtain⟨b,Kz,hb⟩:=c10 (n+406) hd he hv hf Gr;simp only[B3,cI];cases b
 case true=>
  simp only[z2,seval,hd.nag,he.nag,hv.nag,hf.nag,zY,aF 10,aJ,hd.fz,he.fz,hv.fz,hf.fz,Kz,k12,A3];rfl
 obtain⟨b,Cr,Ad⟩:=c11 (n+407) hx;cases b
 case true=>
  simp only[z2,seval,hd.nag,he.nag,hv.nag,hf.nag,zY,aF 10,aF 11,aJ,hd.fz,he.fz,hv.fz,hf.fz,hx.fz,Kz,Cr,k12,A3];rfl
 have hI:=in22 hd he hu hv hf Gr hx (hb rfl) (Ad rfl);have Ff:D.pures [.agg [d,e,v,f],.int .i64 pc,.int .i64 ec,dx]=true:=by simp[D.pures,D.pure,hd.pure,he.pure,hv.pure,hf.pure,hx.pure]
 have Hk:Sl 2 kI (fA []) .nils:=⟨fun r hr=>by simp[fA]at hr,.inl ⟨rfl,rfl⟩⟩
 rcases looks_both n hI pc ec with⟨a,er,h0,fl,Nh,Aq⟩|⟨p,q,fl,Nh,hs,zU,_,Aq⟩
 ·have Nf:=c15 (n+406) (⟨0,0,0,0,0⟩,⟨0,0,[]⟩) (q:=.nils) (q':=.nils) Hk Hk (by decide)
  simp only[Int.ofNat_zero]at Nf;unfold zl0 at Nh Aq;simp only[z0,seval,hd.nag,he.nag,hv.nag,hf.nag,aF 10,aF 11,aF 13,aF 14,aF 15,aJ,hd.fz,he.fz,hv.fz,hf.fz,hx.fz,Kz,Cr,Nh,Aq,Ff,Bool.or_true,k12,i20,eA,dS,aQ,Nf,A3];rfl
 ·have Nf:=c15 (n+406) p (sites_sl p.2.lm) hs zU;have Vb:=(sites_sl p.2.lm).nag;have hsf:=(sites_sl p.2.lm).fz;unfold lookR at Nh;generalize (.sl false p.2.lm.length (en2 (fA p.2.lm)):D)=q0 at *
  simp only[z0,seval,hd.nag,he.nag,hv.nag,hf.nag,aF 10,aF 11,aF 13,aF 14,aF 15,aJ,hd.fz,he.fz,hv.fz,hf.fz,hx.fz,Kz,Cr,Nh,Aq,Ff,Bool.or_true,k12,i20,eA,dS,aQ,Vb,hsf,hs.nag,hs.fz,Nf,A3];rfl
end
end Zv
