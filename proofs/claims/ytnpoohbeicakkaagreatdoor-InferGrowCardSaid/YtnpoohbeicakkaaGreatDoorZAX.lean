/- InferGrow: the law says true. Conditions: none. -/
import Derived.Test.YtnpoohbeicakkaaGreatDoorZAW
set_option linter.unusedVariables false
set_option linter.unusedSimpArgs false
set_option maxRecDepth 100000
namespace Zv
open Go
noncomputable section
theorem B9_eq:B9=(.seq Bg1 (.seq Bg2 (.seq Bg3 (.seq Bg4 (.seq Bg5 (.seq Bg6 (.seq Bg7 (.seq Bg8 (.seq Bg9 (.seq Bg10 (.seq Bg11 (.seq Bg12 (.seq Bg13 (.seq Bg14 (.seq Bg15 (.seq Bg16 .ret)))))))))))))))):=rfl
theorem c16e(n:Nat){ss:List (List UInt8)}{us:List Nat}{d e:D}(hd:Sl 1 iC ss d)(he:Sl 1 u8C us e)(hu:iM us)(hs:oS ss){x er:Int}(hC:CHK ss us=e2 x er)(h0:er≠0):cl (n+5) 16 [.agg [d,e]]=some (e2 0 er,true):=by
 have h50:cl (n+4) 50 [.agg [d,e],.int .i64 0,.int .i64 0]=some (.int .i64 er,true):=by
  rw[cK (A:=A50) rfl (n+4) _ rfl,show A50.body=B50 from rfl]
  simp only[B50,Ab.abq];have h54:=c54 n hd he hu hs;rw[hC]at h54;unfold e2 at h54;simp only[z0,seval,hd.nag,he.nag,hd.fz,he.fz,aF (f:=54) rfl,aQ,h54,hd.len,aK h0,A50];rfl
 rw[cK (A:=A16) rfl (n+5) _ rfl,show A16.body=B16 from rfl]
 simp only[B16,Ab.abq];simp only[z0,seval,hd.nag,he.nag,hd.fz,he.fz,aF (f:=50) rfl,aQ,h50,bD h0,A16];rfl
def wI(us bs:List Nat)(vs:List Vr)(i:Nat):List Vr:=vs.mapIdx fun j v=>if j<i then rsV us bs v j else v
theorem nC{us bs:List Nat}{vs:List Vr}{i:Nat}:(wI us bs vs i).length=vs.length:=List.length_mapIdx
theorem wI_at{us bs:List Nat}{vs:List Vr}{i j:Nat}(h:j<vs.length):(wI us bs vs i)[j]'(by rw[nC];exact h)=if j<i then rsV us bs vs[j] j else vs[j]:=List.getElem_mapIdx
theorem wI_0{us bs:List Nat}{vs:List Vr}:wI us bs vs 0=vs:=List.ext_getElem nC fun i h1 h2=>by rw[wI_at h2,aD (by omega)]
theorem wI_end{us bs:List Nat}{vs:List Vr}:wI us bs vs vs.length=wsL us bs vs:=List.ext_getElem (by rw[nC,sB]) fun i h1 h2=>by
 have h3:i<vs.length:=by rwa [nC]at h1
 rw[wI_at h3,aH h3,ws_at h3]
theorem wI_set{us bs:List Nat}{vs:List Vr}{i:Nat}(h:i<vs.length):(wI us bs vs i).set i (rsV us bs vs[i] i)=wI us bs vs (i+1):=
 List.ext_getElem (by simp[nC]) fun j h1 h2=>by
  have h3:j<vs.length:=by rwa [nC]at h2
  rw[List.getElem_set,wI_at h3,wI_at h3];by_cases e:i=j
  ·subst e;rw[aH rfl,aH (by omega)]
  ·rw[aD e];by_cases e2:j<i
   ·rw[aH e2,aH (by omega)]
   ·rw[aD e2,aD (by omega)]
theorem cells_app{α:Type}{e:α→List D}(l m:List α):cL e (l++m)=cL e l++cL e m:=by simp[cL]
theorem set_row{l:List Vr}{i:Nat}(h:i<l.length)(x:Ty):eS (cL vrC l) (i*6+1) (tyC x)=cL vrC (l.set i ⟨l[i].name,x⟩):=by
 have hl:l=l.take i++l[i]::l.drop (i+1):=by rw[List.getElem_cons_drop,List.take_append_drop]
 have hp:(cL vrC (l.take i)).length=i*6:=by rw[rL.cells_len,dG];congr 1;omega
 rw[List.set_eq_take_append_cons_drop,aH h,cells_app];have h1:cL vrC l=(cL vrC (l.take i)++[.str l[i].name])++(tyC l[i].ty++cL vrC (l.drop (i+1))):=by
  refine(congrArg (cL vrC) hl).trans ?_;rw[cells_app];generalize l.drop (i+1)=m;generalize l.take i=m';simp[cL,vrC,tyC]
 rw[h1,show i*6+1=(cL vrC (l.take i)++[D.str l[i].name]).length by rw[dD,hp];rfl,setAt_mid _ (tyC l[i].ty) _ (tyC x) rfl]
 generalize l.drop (i+1)=m;generalize l.take i=m';simp[cL,vrC,tyC]
theorem cells_sl(l:List Vr):Sl 6 vrC l (.sl false l.length (cL vrC l)):=⟨fun r hr=>by obtain⟨a,_,rfl⟩:=cQ.1 hr;rfl,.inr ⟨false,by rw[fA];rfl⟩⟩
structure IG (d e v f db dx:D) (vD:D) (R:List D) (low:Nat) (ws:List Vr) (t:Tm) (s:St) (c:Nat):Prop where
 s0:sget s 0=some (.fix 30 [d,e,v,f])
 s1:sget s 1=some (.fix 40 R)
 s2:sget s 2=some (.fix 30 [d,e,vD,f])
 ow:lG 6 vrC 3 s vD ws
 fr:mF s c
 t1:tget t 1=db
 t2:tget t 2=dx
 t3:tget t 3 = .ptr 0 0
 t7:tget t 7 = .int .i64 (low:Nat)
 t9:tget t 9 = .ptr 1 0
 t12:tget t 12 = .ptr 2 0
structure IK (d e v f ds ds':D) (R R':List D) (cc:Nat) (t:Tm) (s:St):Prop where
 s0:sget s 0=some (.fix 30 [d,e,v,f])
 s1:sget s 1=some (.fix 40 R)
 sc:sget s cc=some (.fix 40 R')
 t3:tget t 3 = .ptr 0 0
 t9:tget t 9 = .ptr 1 0
 t16:tget t 16 = .ptr cc 0
theorem IK.tm{d e v f ds ds':D}{R R':List D}{cc:Nat}{t t':Tm}{s:St}(h:IK d e v f ds ds' R R' cc t s)(ht:∀i,i=3∨i=9∨i=16→tget t' i=tget t i):IK d e v f ds ds' R R' cc t' s:=
 ⟨h.s0,h.s1,h.sc,by rw[ht 3 (by simp),h.t3],by rw[ht 9 (by simp),h.t9],by rw[ht 16 (by simp),h.t16]⟩
theorem sl_at{us:List Nat}:∀{l m:List (Int×Int)},kF (SL us) l m→∀(i:Nat) (h:i<l.length) (h':i<m.length),SL us l[i] m[i]
 | _,_,.cons h _,0,_,_=>h
 | _,_,.cons _ h,i+1,h1,h2=>sl_at h i (by simpa using h1) (by simpa using h2)
theorem rem_nat(i:Nat){n:Nat}(h:n≠0):jY .rem (.int .i64 (i:Nat)) (.int .i64 (n:Nat))=some (.int .i64 ((i % n:Nat):Int)):=by
 rw[remN (by omega) (by omega)];rfl
theorem c9(n:Nat){ss:List (List UInt8)}{us bs:List Nat}{d e v f db dx:D}{vs:List Vr}{fs:List Fd}{x:List Nd}(hd:Sl 1 iC ss d)(he:Sl 1 u8C us e)(hu:iM us)(hv:Sl 6 vrC vs v)(hf:Sl 3 fdC fs f)(hfs:∀x∈fs,FdIn x)(hb:Sl 1 u8C bs db)(hb8:iM bs)(hx:Sl 7 bU x dx):
  cl (n+14) 9 [.agg [d,e,v,f],db,dx]=some (.bool true,true):=by
 rw[cK (A:=A9) rfl (n+14) _ rfl,show A9.body=B9 from rfl,B9_eq]
 have htk:dE [d,e,v,f] 0 (some 4)=some (.agg [d,e,v,f]):=rfl;obtain⟨b,h10,hb1⟩:=c10 (n+12) hd he hv hf hfs;cases b
 case true=>
  simp only[Bg1,Bg2,Ab.abq];simp only[z2,seval,hd.nag,he.nag,hv.nag,hf.nag,htk,aF (f:=10) rfl,aQ,hd.fz,he.fz,hv.fz,hf.fz,h10,k12,A9];rfl
 obtain⟨b,h11,hb2⟩:=c11 (n+13) hx;cases b
 case true=>
  simp only[Bg1,Bg2,Ab.abq];simp only[z2,seval,hd.nag,he.nag,hv.nag,hf.nag,htk,aF (f:=10) rfl,aF (f:=11) rfl,aQ,hd.fz,he.fz,hv.fz,hf.fz,hx.fz,h10,h11,k12,A9];rfl
 by_cases l0:((bs.length:Nat):Int)=0
 ·simp only[Bg1,Bg2,Ab.abq];simp only[z2,seval,hd.nag,he.nag,hv.nag,hf.nag,htk,aF (f:=10) rfl,aF (f:=11) rfl,aQ,hd.fz,he.fz,hv.fz,hf.fz,hx.fz,h10,h11,k12,hb.len,bD l0,A9];rfl
 by_cases l50:(50:Int)<(bs.length:Nat)
 ·simp only[Bg1,Bg2,Ab.abq];simp only[z2,seval,hd.nag,he.nag,hv.nag,hf.nag,htk,aF (f:=10) rfl,aF (f:=11) rfl,aQ,hd.fz,he.fz,hv.fz,hf.fz,hx.fz,h10,h11,k12,hb.len,aK l0,bD l50,A9];rfl
 have hI:=in22 hd he hu hv hf hfs hx (hb1 rfl) (hb2 rfl);obtain⟨b,er16,h16⟩:∃b er:Int,cl (n+13) 16 [.agg [d,e]]=some (e2 b er,true):=by
  rcases CHK_cases ss us with⟨hC,hul,h1,h8,_⟩|⟨x',er,hC,hne⟩
  ·obtain⟨low,hl1,hl2,_,hl4⟩:=oN hC;rw[←hul]at hl1 hl4;exact⟨_,_,c16 (n+8) ⟨hd,he,hu,hI.hs,hC,hul,h1,h8⟩ hl1 hl4⟩
  ·exact⟨_,_,c16e (n+8) hd he hu hI.hs hC hne⟩
 rcases look_cases n hI b b with⟨a,er,h0,h13⟩|⟨low,p,q,r,hbp,hbq,hE,hq,hG,hev,hX,hr,h13⟩
 ·simp only[Bg1,Bg2,Bg3,Bg4,Bg5,Ab.abq];unfold zl0 at h13;unfold e2 at h16;simp only[z0,seval,hd.nag,he.nag,hv.nag,hf.nag,aF (f:=10) rfl,aF (f:=11) rfl,aF (f:=13) rfl,aF (f:=16) rfl,aQ,hd.fz,he.fz,hv.fz,hf.fz,hx.fz,h10,h11,h13,h16,k12,hb.len,aK l0,aK l50,bD h0,A9];rfl
 have hL:Lt ss us d e:=hE.lt;have hlow:low<us.length:=hE.ll;rw[c16 (n+8) hL hlow hE.lb]at h16;obtain⟨hb0,he0⟩:=lC (Prod.mk.inj (Option.some.inj h16)).1;obtain rfl:p=low:=by omega
 obtain rfl:q=p:=by omega
 have h16:=c16 (n+8) hL hlow hE.lb;have hgb:∀g∈fs,rQ g.body:=fun g hg=>(hG.fb g hg).ex
 have hbs:bs.length≠0:=by omega
 have hun:us.length≠0:=by omega
 have hsn:((ss.length:Nat):Int)≠0:=by have:=hL.h1;omega
 obtain⟨r',hr',hT,hlk,hec,hlm⟩:=lok_rel (grow_rel n hE) (fs.length+1) fs hgb vs (wsL us bs vs) x ⟨q,0,[]⟩ ⟨q,0,[]⟩ (ws_rel hL hE.low bs vs 0 hG.vt) hX.ex rfl ⟨rfl,Up.self hL hlow,.nil⟩ r hr;have hev':envE us (wsL us bs vs) fs=0:=ws_env hL hE.low hev
 have hlki:=(xD hE (fs.length+1) fs hgb).2 vs x _ r hX.ex hG.vt (show SG us ⟨q,0,[]⟩ from⟨hlow,fun _ h=>(List.not_mem_nil h).elim,dK _⟩) hr
 have hkp:=xC (kp_pres _) kp_tick (fs.length+1) fs hgb vs x _ r hX.ex (kp_tick ⟨q,0,[]⟩ ⟨List.nodup_nil,aJ _⟩) hr;have hlen:r.2.lm.length<10000:=by have:=hkp.2;have:=hlki.2.lk;omega
 have hvl:=hG.vl;rw[hbp]at h13;unfold xB at h13;unfold e2 at h16;have hsl1:=sites_sl r.2.lm;have hl12:=hlm.len;generalize hds:D.sl false r.2.lm.length (en2 (fI r.2.lm))=ds at *;have hdn:=hsl1.nag;have htk8:∀a b c d e f g h:D,dE [a,b,c,d,e,f,g,h] 0 (some 5)=some (.agg [a,b,c,d,e]):=fun _ _ _ _ _ _ _ _=>rfl
 simp only[Bg1,Bg2,Bg3,Bg4,Bg5,Bg6,Bg7,Bg8,Ab.abq]
 simp only[z0,seval,hd.nag,he.nag,hv.nag,hf.nag,hdn,hb.len,hd.len,aK l0,aK l50,aK hsn,aF (f:=10) rfl,aF (f:=11) rfl,aF (f:=13) rfl,aF (f:=16) rfl,aQ,hd.fz,he.fz,hv.fz,hf.fz,hx.fz,h10,h11,h13,h16,show decide ((0:Int)≠0)=false from rfl,Bool.or_false,Bool.or_true,aS,eQ,cT]
 generalize hA:nG _ _ _ _ _ _=A;obtain⟨vD,s',c',rfl,how,hc4,hkeep,hfree⟩:=wZ rL (sz:=56) (by decide) (B:=3) (l:=[]) (l':=vs) hA (.inr (.inl ⟨3,aJ _,rfl,by simp[aE],rfl⟩)) (hv.scG rL _) (by rw[bN];omega) (show 3≤4 by decide) (fun m hm=>by
  have hm:4≤m:=hm;simp only[aN,aW];rw[aD (by omega),aD (by omega),aD (by omega),aD (by omega),aD (by omega),aD (by omega)];exact dU m)
 clear hA;rw[cA]at how;have hc4:4≤c':=hc4;have k0:sget s' 0=some (.fix 30 [d,e,v,f]):=by rw[hkeep 0 (by decide)];simp[aE]
 have k1:sget s' 1=some (.fix 40 [.int .i64 r.1.k,.int .i64 r.1.r,.int .i64 (r.1.x:Nat),.int .i64 (r.1.y:Nat),.int .i64 (r.1.z:Nat),.int .i64 (r.2.ec:Nat),ds,.int .i64 (r.2.lk:Nat)]):=by rw[hkeep 1 (by decide)];simp[aE]
 have k2:sget s' 2=some (.fix 30 [d,e,v,f]):=by rw[hkeep 2 (by decide)];simp[aE]
 clear hkeep;have how2:lG 6 vrC 3 (sset s' 2 (.fix 30 [d,e,vD,f])) vD vs:=how.keep fun m b hm h=>by rw[aN,aD (by omega)];exact h
 have vn:=how.nag;have j0:sget (sset s' 2 (.fix 30 [d,e,vD,f])) 0=some (.fix 30 [d,e,v,f]):=by rw[aN,aD (by decide)];exact k0
 have j1:sget (sset s' 2 (.fix 30 [d,e,vD,f])) 1=some (.fix 40 [.int .i64 r.1.k,.int .i64 r.1.r,.int .i64 (r.1.x:Nat),.int .i64 (r.1.y:Nat),.int .i64 (r.1.z:Nat),.int .i64 (r.2.ec:Nat),ds,.int .i64 (r.2.lk:Nat)]):=by rw[aN,aD (by decide)];exact k1
 have j2:sget (sset s' 2 (.fix 30 [d,e,vD,f])) 2=some (.fix 30 [d,e,vD,f]):=by rw[aN,aH rfl]
 have jf:mF (sset s' 2 (.fix 30 [d,e,vD,f])) c':=fun m hm=>by rw[aN,aD (by omega)];exact hfree m hm
 simp only[z0,seval,k2,vn,iJ vn];generalize sset s' 2 (.fix 30 [d,e,vD,f])=s2 at *;clear how hfree k0 k1 k2;simp only[Bg9,Ab.abq];simp only[z0,seval];generalize hz:zloop KK _ _=rl
 refine zfor rl hz vs.length (fQ (by omega)) (by omega) (fun i t s c=>IG d e v f db dx vD [.int .i64 r.1.k,.int .i64 r.1.r,.int .i64 (r.1.x:Nat),.int .i64 (r.1.y:Nat),.int .i64 (r.1.z:Nat),.int .i64 (r.2.ec:Nat),ds,.int .i64 (r.2.lk:Nat)] q (wI us bs vs i) t s c∧4≤c) (by simp[aE]) ⟨⟨j0,j1,j2,by rw[wI_0];exact how2,jf,by simp[aE],by simp[aE],by simp[aE],by simp[aE],by simp[aE],by simp[aE]⟩,hc4⟩ ?_
 rintro i t s c hi ⟨hB,hc4⟩ hti;have vlen:lenD false vD=some vs.length:=by have:=hB.ow.len;rwa [nC]at this
 by_cases hlt:i<vs.length
 ·have hwl:i<(wI us bs vs i).length:=by rw[nC];exact hlt
  obtain⟨m,ty,hm,hvD,hcell⟩:∃m ty,3≤m∧vD = .gs m 0 6 vs.length∧sget s m=some (.grow ty (cL vrC (wI us bs vs i))):=by
   rcases hB.ow with⟨_,h0⟩|⟨_,_,_,_,h0⟩|⟨m,ty,hm,h1,h2,_⟩
   ·rw[h0]at hwl;cases hwl
   ·rw[h0]at hwl;cases hwl
   ·exact⟨m,ty,hm,by rw[h1,nC],h2⟩
  subst hvD;have ia:kE 6 (.gs m 0 6 vs.length) (.int .i64 (i:Nat))=some (.ptr m (i*6)):=by
   unfold kE;simp only[fM hlt,aO,bK];rfl
  have hti2:=sC (hG.vt _ (cB hlt));have hty:=var_ty (cells_sl (wI us bs vs i)) hwl;rw[show(wI us bs vs i)[i]=vs[i] by rw[wI_at hlt,aD (Nat.lt_irrefl i)],←hti2.1]at hty
  have hk:i % bs.length<bs.length:=Nat.mod_lt _ (by omega)
  have hbv:(bs.map u8C).flatten[i % bs.length]?=some (.int .u8 (bs[i % bs.length]:Nat)):=hb.at1 hk;have hb256:bs[i % bs.length]<256:=hb8 _ (cB hk);have hbI:bI bs us.length i=bs[i % bs.length] % ss.length:=by unfold bI;rw[jX hk,hL.l]
  have h34:=c34 (n+4) hL hE.low hti2.2 (b:=bI bs us.length i) (bI_lt (by omega))
  rw[hbI]at h34;have e34:raT us (bs[i % bs.length] % ss.length) (toT vs[i].ty)=raT us (bI bs us.length i) (toT vs[i].ty):=by rw[hbI]
  rw[e34]at h34;obtain⟨T',hT'⟩:∃T',T'=raT us (bI bs us.length i) (toT vs[i].ty):=⟨_,rfl⟩
  rw[←hT']at h34;have cl6:(cL vrC (wI us bs vs i)).length=vs.length*6:=by rw[rL.cells_len,nC]
  have row1:decide (i*6+1+5≤(cL vrC (wI us bs vs i)).length)=true:=bD (by rw[cl6];omega)
  have row2:List.take 5 (List.drop (i*6+1) (cL vrC (wI us bs vs i)))=tyC (tl (toT vs[i].ty)):=by
   have ht2:dE (cL vrC (wI us bs vs i)) (i*6+1) (some 5)=some (.agg (List.take 5 (List.drop (i*6+1) (cL vrC (wI us bs vs i))))):=by
    rw[dE,bZ (of_decide_eq_true row1)];rfl
   exact D.agg.inj (Option.some.inj (ht2.symm.trans hty))
  have n25:sget s (c+25)=none:=hB.fr _ (by omega)
  have zq0:(0=c+25)=False:=aL (by omega)
  have zq2:(2=c+25)=False:=aL (by omega)
  have zq1:(1=c+25)=False:=aL (by omega)
  have zm:(m=c+25)=False:=aL (fun h=>by rw[h,n25]at hcell;cases hcell)
  have hvn:eU (.gs m 0 6 vs.length)=false:=rfl;have hset:=set_row hwl (tl T');rw[show(wI us bs vs i)[i]=vs[i] by rw[wI_at hlt,aD (Nat.lt_irrefl i)],show(⟨vs[i].name,tl T'⟩:Vr)=rsV us bs vs[i] i by unfold rsV;rw[hT'],wI_set hlt]at hset
  have cvb:∀k:Nat,k<256→dJ .i64 (k:Nat)=(k:Nat):=fun k hk=>gT (by omega) (by omega)
  generalize toT vs[i].ty=T0 at *;have hst:stB (.grow ty (cL vrC (wI us bs vs i))) (i*6+1) (tyC (tl T'))=some (.grow ty (cL vrC (wI us bs vs (i+1)))):=by
   rw[←hset,stB];have hle:Nat.ble (i*6+1+(tyC (tl T')).length) (cL vrC (wI us bs vs i)).length=true:=bZ (of_decide_eq_true row1);rw[hle];rfl
  unfold tlC tyC tl at *
  simp only[z0,seval,hti,hB.t1,hB.t3,hB.t7,hB.t12,hB.s0,hB.s2,vlen,eD hlt,ia,hcell,row1,row2,rem_nat _ hbs,rem_nat _ (show ss.length≠0 by omega),hb.len,hd.len,hb.ia1 hk,hbv,cvb _ hb256,hd.nag,he.nag,hd.fz,he.fz,aF (f:=34) rfl,aQ,h34,eG,cX,AOp.kd,zop,tks,cC,dW,cT,eQ,show decide ((0:Int)≠0)=false from rfl,n25,zq0,zq2,zm,bQ,aU,bN,dB,hst]
  have hne:wI us bs vs (i+1)≠[]:=fun h=>by have:=nC (us:=us) (bs:=bs) (vs:=vs) (i:=i+1);rw[h,bN]at this;omega
  have m3:(0=m)=False:=aL (by omega)
  have m1:(1=m)=False:=aL (by omega)
  have m2:(2=m)=False:=aL (by omega)
  refine⟨hlt,trivial,trivial,trivial,⟨?_,?_,?_,?_,?_,?_,?_,?_,?_,?_,?_⟩,trivial⟩
  ·simp only[aN,aW,zq0,m3,eV,hB.s0]
  ·simp only[aN,aW,zq1,m1,eV,hB.s1]
  ·simp only[aN,aW,zq2,m2,eV,hB.s2]
  ·exact .inr (.inr ⟨m,ty,hm,by rw[nC],by simp only[aN,aH],hne⟩)
  ·intro k hk;have e1:(k=c+25)=False:=aL (by omega)
   have e2:(k=m)=False:=aL (fun h=>by rw[←h,hB.fr k (by omega)]at hcell;cases hcell)
   simp only[aN,aW,e1,e2,eV];exact hB.fr k (by omega)
  ·simp[aE];exact hB.t1
  ·simp[aE];exact hB.t2
  ·simp[aE];exact hB.t3
  ·simp[aE];exact hB.t7
  ·simp[aE];exact hB.t9
  ·simp[aE];exact hB.t12
 ·have hie:i=vs.length:=by omega
  subst hie;rw[wI_end]at hB;obtain⟨vf,hfz,hslw⟩:=hB.ow.fz rL false;have hE':tR (wsL us bs vs) fs vf f:=⟨hslw,hf,by rw[sB];omega,hI.hE.fl,fun y hy=>by
   obtain⟨j,hj,rfl⟩:=eO hy;rw[sB]at hj;rw[ws_at hj];exact(hI.hE.vn vs[j] (cB hj):vs[j].name.length<9223372036854775807),hI.hE.fo⟩
  have h13b:=c13 n (q:Nat) (q:Nat) hL hE' hev' hE.low hE.ll hE.lb hx hI.hxl hI.hxn;unfold lookD at h13b;rw[aD (by omega),aD (by obtain⟨a0,h0⟩:=hX;rw[exE_eq h0];decide),cU,hr']at h13b
  replace h13b:cl (n+13) 13 [.agg [d,e,vf,f],.int .i64 (q:Nat),.int .i64 (q:Nat),dx]=some (xB r',true):=h13b;have h35:=c35 (n+2) hL hE.low hT;have h19:=c19 (n+8) hL hec.1 hec.2.1;rw[show(uM us r.2.ec).testBit r'.2.ec=true from hec.2.2]at h19
  have hsl2:=sites_sl r'.2.lm;have hso:=sortP_rel hlm;have hso2:=hso.len;unfold xB at h13b;rw[←hl12]at h13b hsl2;generalize hds2:D.sl false r.2.lm.length (en2 (fI r'.2.lm))=ds2 at *;have hdn2:=hsl2.nag;have len1:=hsl1.len;have len2:=hsl2.len;rw[←hso2]at len2;rw[←hlk]at h13b;have hvn:=hB.ow.nag;have zq0:(0=c)=False:=aL (by omega)
  have zq1:(1=c)=False:=aL (by omega)
  have zq2:(2=c)=False:=aL (by omega)
  have hne:∀i:Int,decide (i≠i)=false:=fun i=>aK (fun h=>h rfl)
  unfold tlC tyC tl at h35;simp only[Bg10,Bg11,Bg12,Bg13,Bg14,Bg15,Ab.abq]
  simp only[z0,seval,hti,hB.t2,hB.t3,hB.t7,hB.t9,hB.t12,hB.s0,hB.s1,hB.s2,vlen,kB (aJ vs.length),hvn,hfz,hd.nag,he.nag,hv.nag,hf.nag,hdn2,hdn,aF (f:=13) rfl,aF (f:=35) rfl,aF (f:=19) rfl,aQ,hd.fz,he.fz,hv.fz,hf.fz,hx.fz,h13b,h35,h19,zq0,zq1,zq2,htk8,len1,len2,hne,show decide ((0:Int)≠0)=false from rfl,Bool.or_false,Bool.or_true,aS]
  generalize hz2:zloop KK _ _=rl2;have hll:(fI r.2.lm).length=r.2.lm.length:=(jI r.2.lm).length_eq
  refine zfor rl2 hz2 (fI r.2.lm).length (fQ (by omega)) (by omega) (fun i t s' c'=>IK d e v f ds ds2 [.int .i64 r.1.k,.int .i64 r.1.r,.int .i64 (r.1.x:Nat),.int .i64 (r.1.y:Nat),.int .i64 (r.1.z:Nat),.int .i64 (r.2.ec:Nat),ds,.int .i64 (r.2.lk:Nat)] [.int .i64 r'.1.k,.int .i64 r'.1.r,.int .i64 (r'.1.x:Nat),.int .i64 (r'.1.y:Nat),.int .i64 (r'.1.z:Nat),.int .i64 (r'.2.ec:Nat),ds2,.int .i64 (r.2.lk:Nat)] c t s') (by simp[aE]) ⟨by simp only[aN,aW,zq0,eV,hB.s0],by simp only[aN,aW,zq1,eV,hB.s1],by simp only[aN,aH],by simp[aE];exact hB.t3,by simp[aE];exact hB.t9,by simp[aE]⟩ ?_
  clear hB hti;rintro i t s c2 hi hB hti;by_cases hlt:i<(fI r.2.lm).length
  ·have hlt2:i<(fI r'.2.lm).length:=by rw[←hso2];exact hlt
   obtain⟨_,k,l,hk,hl,hu⟩:=sl_at hso i hlt hlt2;have h19c:=c19 (n+8) hL hu.1 hu.2.1;rw[show(uM us k).testBit l=true from hu.2.2]at h19c
   have ia:=hsl1.ia hlt (k:=.i64);have ib:=hsl2.ia hlt2 (k:=.i64);have at1:=hsl1.cell hlt (show 1<2 by decide)
   have bt1:=hsl2.cell hlt2 (show 1<2 by decide)
   have hat:(siteC (fI r.2.lm)[i])[1]?=some (.int .i64 (k:Nat)):=by unfold siteC;rw[hk];rfl
   have hbt:(siteC (fI r'.2.lm)[i])[1]?=some (.int .i64 (l:Nat)):=by unfold siteC;rw[hl];rfl
   rw[hat]at at1;rw[hbt]at bt1;simp only[z0,seval,hti,hB.t3,hB.t9,hB.t16,hB.s0,hB.s1,hB.sc,len1,len2,eD hlt,ia,ib,at1,bt1,hd.nag,he.nag,aF (f:=19) rfl,aQ,hd.fz,he.fz,h19c,eG,cX,AOp.kd,zop,tks,cC,dW,show decide ((0:Int)≠0)=false from rfl,aU,bN]
   exact⟨hlt,trivial,trivial,trivial,hB.tm (by rintro i (rfl|rfl|rfl)<;>simp[aE])⟩
  have hie:i=(fI r.2.lm).length:=by omega
  subst hie;simp only[Bg16,Ab.abq];simp only[z0,seval,hti,hB.t9,hB.s1,len1,kB (aJ (fI r.2.lm).length),k12,A9];rfl
end
end Zv
