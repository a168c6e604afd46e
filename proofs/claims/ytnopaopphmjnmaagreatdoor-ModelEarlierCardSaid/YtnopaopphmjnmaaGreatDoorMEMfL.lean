import Derived.Test.YtnopaopphmjnmaaGreatDoorMEMfA
set_option linter.all false
set_option maxRecDepth 100000
set_option maxHeartbeats 64000000
namespace Go.Proofs.YtnopaopphmjnmaaGreatDoor
noncomputable section
open Go Go.Abs
def SQ(l:List Od):Int:=match l.getLast? with
 |none=>0
 |some o=>o.fr
structure fB (l:List Od):Prop where
 ok:∀(i:Nat)(o:Od),l[i]?=some o->kP o ((i:Int)+1) o.fr=o/\Xw o=true
 asc:l.Pairwise fun a b=>a.fr<=b.fr
 pos:∀o∈l,0<=o.fr
 len:l.length<=7
def Qbr(l:List Od)(o:Od):SQ (l++[o])=o.fr:=by unfold SQ;simp
def aa0{l:List Od}(h:l.Pairwise fun a b=>a.fr<=b.fr):∀o∈l,o.fr<=SQ l:=fun o ho=>by
 rcases zzdl l with rfl|⟨t,x,rfl⟩
 ·cases ho
 rw[zzdm]at*
 rw[Qbr];obtain⟨_,_,h3⟩:=zzdh.1 h;rcases zzao.1 ho with ho|ho
 ·exact h3 o ho x (by simp)
 rw[zzbg.1 ho];exact zzbv _
def SR(o:Od)(n f:Int):kP (kP o n f) n f=kP o n f:=by
 have h:∀b:ByteArray,(b.extract 0 (if 300<b.size then 300 else b.size)).extract 0 (if 300<(b.extract 0 (if 300<b.size then 300 else b.size)).size then 300 else(b.extract 0 (if 300<b.size then 300 else b.size)).size)=b.extract 0 (if 300<b.size then 300 else b.size):=fun b=>by
  have h1:¬300<(b.extract 0 (if 300<b.size then 300 else b.size)).size:=by rw[zzfl];split<;>omega
  rw[if_neg h1,ByteArray.extract_zero_size]
 unfold kP;simp only[List.take_take,Nat.min_self,h]
def fB.snoc{l:List Od}(h:fB l)(o:Od)(h7:¬7<=l.length)(f:Int)(hf:SQ l<=f)(h0:0<=f)(hv:Xw (kP o (l.length+1) f)=true):fB (l++[kP o (l.length+1) f]) where
 ok i x hx:=by
  rcases zzaa i l.length with hi|hi
  ·rw[zzag hi]at hx;exact h.ok i x hx
  rw[zzan hi]at hx
  obtain⟨hi2,rfl⟩:i-l.length=0/\x=kP o (l.length+1) f:=by
   cases hk:i-l.length with
   |zero=>rw[hk]at hx;exact⟨rfl,(Option.some.inj hx).symm⟩
   |succ n=>rw[hk]at hx;simp at hx
  obtain rfl:i=l.length:=by omega
  exact⟨SR o _ f,hv⟩
 asc:=zzdh.2 ⟨h.asc,zzgx _ _,fun a ha b hb=>by
  rw[zzbg.1 hb];have:=aa0 h.asc a ha;show a.fr<=f;omega⟩
 pos x hx:=by
  rcases zzao.1 hx with hx|hx
  ·exact h.pos x hx
  rw[zzbg.1 hx];exact h0
 len:=by simp;omega
def aa1(a b:Int):b<=SL a b/\(b<=a->SL a b=a)/\a<=SL a b:=by
 unfold SL;split<;>omega
def BD{l:List Od}(h:fB l):0<=SQ l:=by
 rcases zzdl l with rfl|⟨t,x,rfl⟩
 ·exact zzbv _
 rw[zzdm]at*
 rw[Qbr];exact h.pos x (by simp)
def yP:∀(l out:List Od),fB out->fB (ov l out (SQ out))
 |[],out,h=>h
 |o::r,out,h=>by
  rw[ov];have hp:=BD h;have hm:=aa1 o.fr (SQ out);split
  ·exact h
  rename_i h7;split
  ·rename_i hv;have:=yP r _ (h.snoc o h7 _ hm.1 (by omega) hv);rw[Qbr]at this;exact this
  exact yP r out h
def HW(l:List Od):fB (ur l):=yP l [] ⟨(fun i o h=>by simp at h),List.Pairwise.nil,(fun o h=>by cases h),by simp⟩
def yQ:∀(a out r:List Od),fB (out++a)->ov (a++r) out (SQ out)=ov r (out++a) (SQ (out++a))
 |[],out,r,h=>by simp
 |x::a,out,r,h=>by
  have hl:=h.len;obtain⟨k1,k2⟩:=h.ok out.length x (by simp)
  have eO:SQ out<=x.fr:=by
   rcases zzdl out with rfl|⟨t,y,rfl⟩
   ·exact h.pos x (by simp)
   rw[zzdm]at*
   rw[Qbr];exact(zzdh.1 h.asc).2.2 y (by simp) x (by simp)
  rw[zzae,ov,if_neg (by simp at hl;omega),(aa1 x.fr (SQ out)).2.1 eO,k1,if_pos k2];have:=yQ a (out++[x]) r (by simpa using h);rw[Qbr]at this;rw[this];simp
def aa2{a:List Od}(h:fB a)(o:Od):ur (a++[o])=a\/∃x:Od,ur (a++[o])=a++[x]/\fB (a++[x]):=by
 have:=yQ a [] [o] (by simpa using h);unfold ur;rw[show SQ []=0 from rfl]at this;rw[this,zzaj,ov];have hm:=aa1 o.fr (SQ a);have hp:=BD h;split
 ·exact .inl rfl
 rename_i h7;split
 ·rename_i hv;exact .inr ⟨_,rfl,h.snoc o h7 _ hm.1 (by omega) hv⟩
 exact .inl rfl
def BE:∀(l:List Od)(M:Md)(o:Od),I4 M (l++[o])=(I4 M l).bind fun M'=>DP M' o
 |[],M,o=>by
  rw[zzaj,I4];cases h:DP M o with
  |none=>simp[I4,h]
  |some x=>simp[I4,h]
 |y::r,M,o=>by
  rw[zzae,I4,I4];cases h:DP M y with
  |none=>rfl
  |some x=>exact BE r x o
def anO{M:Md}{l:List Od}{o:Od}(hM:M.os=l.map fun o=>(o.sq,o.fr))(h:fB (l++[o])):∃M',DP M o=some M':=by
 obtain⟨k1,k2⟩:=h.ok l.length o (by simp);have hsq:o.sq=(l.length:Int)+1:=by rw[<- k1];rfl
 have aH:M.os.length=l.length:=by rw[hM,zzbf]
 unfold DP;rw[if_neg]
 ·exact⟨_,rfl⟩
 unfold DO;rw[k2,aH,hsq];rcases zzdl l with rfl|⟨t,x,rfl⟩
 ·simp[hM]
 rw[zzdm]at*
 have:=(zzdh.1 h.asc).2.2 x (by simp) o (by simp);have hg:M.os.getLast?=some (x.sq,x.fr):=by rw[hM];simp
 rw[hg];simp;omega
def Px:∀(l out:List Od)(M:Md),M.os=out.map (fun o=>(o.sq,o.fr))->fB (out++l)->∃M',I4 M l=some M'
 |[],out,M,hM,h=>⟨M,rfl⟩
 |o::r,out,M,hM,h=>by
  have h1:fB (out++[o]):=⟨fun i x hx=>by
    have hi:i<(out++[o]).length:=(zza.1 hx).1;exact h.ok i x (by rw[show out++o::r=(out++[o])++r by simp,zzag hi];exact hx),
   (zzdh.1 (show((out++[o])++r).Pairwise _ by simpa using h.asc)).1,fun x hx=>h.pos x (by simp at hx |-;obtain hx|hx:=hx;exact .inl hx;exact .inr (.inl hx)),by have:=h.len;simp at this |-;omega⟩
  obtain⟨M1,e⟩:=anO hM h1
  have ho:M1.os=(out++[o]).map fun o=>(o.sq,o.fr):=by
   unfold DP at e;split at e
   ·cases e
   cases e;simp[hM]
  obtain⟨M2,e2⟩:=Px r (out++[o]) M1 ho (by simpa using h);exact⟨M2,by rw[I4,e];exact e2⟩
def qj{ps:List Pl}(hp:∀p∈ps,Mt p){l:List Od}(h:fB l):Ab ps l=none<->mw ps=none:=by
 unfold Ab;cases hn:mw ps with
 |none=>simp
 |some M=>
  obtain⟨_,h2⟩:=DT hp hn;obtain⟨M',e⟩:=Px l [] M (by rw[h2];rfl) (by simpa using h);simp[e]
def Next(Ma Mb:Md)(o:Od):Prop:=Mb={Ma with ps:=Ma.ps.map (Yt o Ma.os.length),os:=Ma.os++[(o.sq,o.fr)]}
def aa3{ps:List Pl}{l:List Od}{o:Od}{Ma Mb:Md}(ha:Ab ps l=some Ma)(hb:Ab ps (l++[o])=some Mb):Next Ma Mb o:=by
 unfold Ab at ha hb;cases hn:mw ps with
 |none=>rw[hn]at ha;cases ha
 |some M=>
  rw[hn]at ha hb;simp only at ha hb;rw[BE,ha,zzcu]at hb;unfold DP at hb;split at hb
  ·cases hb
  exact(Option.some.inj hb).symm
def aa4(l:List (Int×Int)){f g:Int}(h:f<=g):Vw f l<=Vw g l/\fA f l<=fA g l:=by
 induction l with
 |nil=>simp[Vw,fA]
 |cons x r ih=>
  have e1:=Qbl (fun x:Int×Int=>x.2<=f) x r;have e2:=Qbl (fun x:Int×Int=>x.2<=g) x r;have e3:=Qbl (fun x:Int×Int=>x.2+8<=f) x r;have e4:=Qbl (fun x:Int×Int=>x.2+8<=g) x r;unfold Vw fA at*
  rw[e1,e2,e3,e4];constructor
  ·by_cases c:x.2<=f
   ·rw[if_pos c,if_pos (by omega)];omega
   rw[if_neg c];split<;>omega
  by_cases c:x.2+8<=f
  ·rw[if_pos c,if_pos (by omega)];omega
  rw[if_neg c];split<;>omega
def Py(l:List (Int×Int))(f:Int):0<=fA f l/\fA f l<=Vw f l/\Vw f l<=(l.length:Int):=by
 induction l with
 |nil=>simp[Vw,fA]
 |cons x r ih=>
  have e1:=Qbl (fun x:Int×Int=>x.2<=f) x r;have e3:=Qbl (fun x:Int×Int=>x.2+8<=f) x r;unfold Vw fA at*
  rw[e1,e3,zzba];by_cases c:x.2+8<=f
  ·rw[if_pos c,if_pos (by omega)];omega
  rw[if_neg c];split<;>omega
def HX{Ma Mb:Md}{o:Od}(h:Next Ma Mb o){f:Int}(hf:f<o.fr):Vw f Mb.os=Vw f Ma.os/\fA f Mb.os=fA f Ma.os:=by
 rw[h];unfold Vw fA;simp only[zzcr,zzah];rw[zzdu (by simp;omega),zzdu (by simp;omega)];simp
def yR{α β:Type}{f g:α->List β}:∀{l:List α},(∀x∈l,f x=g x)->l.flatMap f=l.flatMap g
 |[],_=>rfl
 |a::t,h=>by rw[zzcy,zzcy,h a (by simp),yR fun x hx=>h x (by simp[hx])]
def aa5{Ma Mb:Md}{o:Od}(h:Next Ma Mb o)(hV:Tx Ma)(c r:Int){f:Int}(hf:f<o.fr):Xt Mb c r f=Xt Ma c r f:=by
 obtain⟨v1,v2⟩:=HX h hf;have hb:=Py Ma.os f
 have hc:O8 Mb c=(O8 Ma c).map (Yt o Ma.os.length):=by
  rw[h];unfold O8;cases af c Ma.pl with
  |none=>rfl
  |some i=>simp
 unfold Xt;rw[hc,v1,v2];cases hx:O8 Ma c with
 |none=>rfl
 |some l=>
  have hl:=hV.n l (lQ hx);cases l with
  |nil=>simp at hl
  |cons g t=>
   simp only[zzcs,Yt,zzae];split
   ·rfl
   congr 1;refine yR fun v hv=>?_;obtain⟨_,uy,_⟩:=HV _ (fA f Ma.os) (Vw f Ma.os) (zzab _);have:=uy v hv;unfold iK;rw[<- zzae,zzag (by omega)]
open Go Go.Abs
def aud(n:Nat)(f:Nat->AV)(m:AM):Prop:=∃i:Nat,f 5=I i/\i<=n/\m=⟨[],[],fun _=>.gone,0⟩
def aa6(l:List Sh)(hl:l.length<=1000000000):Pure Tryz.prog az 22 [.sl .ro (l.map Zk),.sl .ro (l.map Zk)] (.bool true):=by
 refine Qn akG (fun _ _ _=>.junk) (by simp) ?_;simp[akF];refine Qj TA (aud l.length) (fun f _=>l.length-(numOf (f 5)).toNat) ?_ ?_
 ·exact⟨0,by simp,by omega,rfl⟩
 rintro f m ⟨i,h5,hi,rfl⟩;rcases zzaa i l.length with ai|bu
 ·obtain⟨a,ha⟩:=aR ai;have ah:Qh (l.map Zk) i=Zk a:=Qs (by simp[ha]);have aa:(i:Int)<(l.length:Int):=by omega
  have hw:=bK i (by omega);simp[h5,TA,ai,aa,ah,Zk,hw];refine⟨aO,⟨i+1,by simp,by omega,rfl⟩,by omega⟩
 obtain rfl:i=l.length:=by omega
 simp[h5,TA,aoU]
def Yo(q:Pl)(a b:List Od)(rta rtb:Rt):Nat->FuncId->List AV->AV:=fun d fn _=>if fn=11 then .bool true else if fn=28 then .agg (Qc q)else if fn=15 then(if d=31 then .sl rta (a.map Qq)else .sl rtb (b.map Qq))else if fn=22 then .bool true else .gd false .junk
def aue(n:Nat)(B:List (List AV))(f:Nat->AV)(m:AM):Prop:=∃(i:Nat)(C:List (List AV))(ls:List Nat)(ms:Nat->LS)(mn:Nat),f 15=I i/\i<=n/\m=⟨B++C,ls,ms,mn⟩
open Go Go.Abs
def aa7:SC:=(⟨_,by cbv⟩:tW [1,1,1,1,1,1,1,1,0,1,0,0,1,0,0,1,1,1,1] sc7).1
def hd7:SC:=(⟨_,fun _=>by cbv⟩:uE [1,1,1,1,1,1,1,1,0,1,0,0,1,0,0,1,1,1,1] sc7).1 aa7
theorem anP:sc7=hd7:=rfl
def D0(q:Pl)(a b:List Od)(rta rtb:Rt)(r f:Int)(hf:f<=9223372036854775807)(E:List (Nat×AV))(B:List (List AV))(ls:List Nat)(ms:Nat->LS)(mn:Nat)(Q:Exit->AS->Prop)
  (md:Nat)(Ma:Md)(pid aQ:Nat)(bn:List Rt)(bQ:Rt)(z:List AV)(hBa:gA B md Ma pid aQ bn bQ z)(hma:MoK Ma)(fq:∀rt∈bn,rt=.full\/∃k,rt=.own k 18)
  (Pz:Nat)(Mb:Md)(yS yT:Nat)(uu:List Rt)(yU:Rt)(z2:List AV)(hBb:gA B Pz Mb yS yT uu yU z2)(eD:MoK Mb)(nP:∀rt∈uu,rt=.full\/∃k,rt=.own k 18)
  (eG:∀X,Qh (B++X) 0=Qc q)(hBl:0<B.length)(eP:a.length<=7)(iL:b.length<=7)
  (e1:Abs.look E 1=.sl rta (a.map Qq))(e3:Abs.look E 3=I r)(e5:Abs.look E 5=.ptr 0 0)(e12:Abs.look E 12=.sl rtb (b.map Qq))(e13:Abs.look E 13=.ptr md 0)(e14:Abs.look E 14=.ptr Pz 0)(e16:Abs.look E 16=I f)
  (e17:Abs.look E 17=I (fA f Mb.os))(e18:Abs.look E 18=I (Vw f Mb.os))
  (aa8:b=a/\Mb=Ma\/∃x,b=a++[x]/\(x.fr<=f\/(f<x.fr/\fA f Mb.os=fA f Ma.os/\Vw f Mb.os=Vw f Ma.os/\Xt Mb q.ch r f=Xt Ma q.ch r f)))
  (hQ:∀E' C bX kK kL,(∀k,k<21\/(22<k/\k<123)\/167<k->Abs.look E' k=Abs.look E k)->Q .normal ⟨Ze 169 E',⟨B++C,bX,kK,kL⟩⟩)
  (hQx:∀E' C bX kK kL,(∀k,k<21\/(22<k/\k<123)\/167<k->Abs.look E' k=Abs.look E k)->Q (.exit 1) ⟨Ze 169 E',⟨B++C,bX,kK,kL⟩⟩):
  vc Tryz.prog az (Yo q a b rta rtb) Y0 aa7 ⟨Ze 169 E,⟨B,ls,ms,mn⟩⟩ Q:=by
 obtain⟨rfl,rfl⟩|⟨x,rfl,hx⟩:=aa8
 ·simp[aa7,e1,e3,e5,e12,e13,e14,e16,e17,e18,Yo];refine Kw Y0 _ md Mb pid aQ bn bQ z f hBa hma.os _ ?_;simp;refine FH [] (fun v m'=>v=.sl .ro ((Xt Mb q.ch r f).map Zk)/\∃C bX kK kL,m'=⟨B++C,bX,kK,kL⟩) [.ptr Pz 0,.ptr 0 0,I q.ch,I r,I f] ⟨(_,⟨B++[],[],fun _=>.gone,0⟩),rfl,_,_,_,_,rfl⟩ ?_;rintro v m' ⟨rfl,C,bX,kK,kL,rfl⟩;have h00:=eG [];have h0C:=eG C;rw[zzat]at h00;simp only[Qc]at h00 h0C;have k22:=aa6 (Xt Mb q.ch r f) (by have:=Qer Mb eD q.ch r f;omega);constructor
  ·simp[h00,h0C,hBl,Yo,e3,e5,e13,e14,e16,e17,e18];refine⟨Qaj Y0 _ md Mb pid aQ bn bQ z q.ch r f hBa hma fq hf _ fun C2 lx ms2 mn2=>⟨rfl,_,_,_,_,rfl⟩,?_⟩;refine Qaj Y0 _ Pz Mb yS yT uu yU z2 q.ch r f (hBb.ext C) eD nP hf _ fun C2 lx ms2 mn2=>⟨k22,?_⟩;simp only[zzax];refine hQ _ (C++C2) (bX++lx) ms2 mn2 fun k hk=>?_;simp only[Qbk];repeat rw[if_neg (by omega)]
  simp[h00,h0C,hBl,Yo,e3,e5,e14,e16]
 have ah:Qh ((a++[x]).map Qq) a.length=Qq x:=Qs (by simp);have auf:a.length<a.length+1:=by omega
 have aug:(a.length:Int)<(a.length:Int)+1:=by omega
 have Gt:Qh (a.map Qq++[[I x.sq,I x.ch,I x.fr,I x.ki,I x.en,I x.n,I x.nw.id,I x.nw.it,I x.nw.fr,I x.nw.ea,I x.nw.la,I x.nw.bo,.sl .ro (x.nw.al.map Qe),I x.cl.ki,I x.cl.it,I x.cl.fr,I x.cl.to,I x.cl.re,I x.cl.n,I x.cl.a,I x.cl.b,I x.cu.id,I x.cu.fr,I x.cu.to,I x.cu.pr,.str x.cu.tx]]) a.length=Qq x:=by simpa[Qq,Qd,Qg,Qi]using ah
 obtain hx|⟨hx,v1,v2,v3⟩:=hx
 ·simp[aa7,e1,e3,e5,e12,e13,e14,e16,e17,e18,Yo,aug,auf,ah,Gt,Qq,Qd,Qg,Qi,hx];have hz:(⟨B,ls,ms,mn⟩:AM)=⟨B++[],ls,ms,mn⟩:=by rw[zzat]
  rw[hz];refine hQx _ [] ls ms mn fun k hk=>?_;simp only[Qbk];repeat rw[if_neg (by omega)]
 have jf:¬x.fr<=f:=by omega
 simp[aa7,e1,e3,e5,e12,e13,e14,e16,e17,e18,Yo,aug,auf,ah,Gt,Qq,Qd,Qg,Qi,jf];refine Kw Y0 _ md Ma pid aQ bn bQ z f hBa hma.os _ ?_;simp;refine FH [] (fun v m'=>v=.sl .ro ((Xt Ma q.ch r f).map Zk)/\∃C bX kK kL,m'=⟨B++C,bX,kK,kL⟩) [.ptr Pz 0,.ptr 0 0,I q.ch,I r,I f] ⟨(_,⟨B++[],[],fun _=>.gone,0⟩),rfl,_,_,_,_,rfl⟩ ?_;rintro v m' ⟨rfl,C,bX,kK,kL,rfl⟩;have h00:=eG [];have h0C:=eG C;rw[zzat]at h00;simp only[Qc]at h00 h0C;have k22:=aa6 (Xt Ma q.ch r f) (by have:=Qer Ma hma q.ch r f;omega);constructor
 ·simp[h00,h0C,hBl,Yo,e3,e5,e13,e14,e16,e17,e18,v1,v2];refine⟨Qaj Y0 _ md Ma pid aQ bn bQ z q.ch r f hBa hma fq hf _ fun C2 lx ms2 mn2=>⟨rfl,_,_,_,_,rfl⟩,?_⟩;refine Qaj Y0 _ Pz Mb yS yT uu yU z2 q.ch r f (hBb.ext C) eD nP hf _ fun C2 lx ms2 mn2=>⟨by rw[v3];exact k22,?_⟩;simp only[zzax];refine hQ _ (C++C2) (bX++lx) ms2 mn2 fun k hk=>?_;simp only[Qbk];repeat rw[if_neg (by omega)]
 simp[h00,h0C,hBl,Yo,e3,e5,e14,e16]
open Go Go.Abs
def lR(t:Nat)(ht:tH.contains t=false):t<21\/(22<t/\t<123)\/167<t:=by
 by_cases h:t<168
 ·exact(by decide:∀t,t<168->tH.contains t=false->t<21\/(22<t/\t<123)\/167<t) t h ht
 omega
def law7(p:Pl)(l:List Od)(o:Od)(r:Int)(fs:List Int)(hp:auc [p])(hl:l.length<=1000000000000)(Ti:∀f∈fs,f<=9223372036854775807)(fK:fs.length<=17592186044416):
  Pure Tryz.prog az 7 [.agg (Qc p),.sl .ro (l.map Qq),.agg (Qq o),I r,.sl .ro (fs.map Qy)] (.bool true):=by
 have k11:=anM;have k28:=LZ p;have hps:SN [R6 p]:=agM hp;generalize hq:R6 p=q at k28 hps;obtain⟨rta,auh⟩:=nh (l.take 6) (by simp;omega);have hna:=HW (l.take 6);obtain⟨OW,agN⟩:=Pw (l.take 6);generalize ha:ur (l.take 6)=a at auh hna OW agN;obtain⟨rtb,anQ⟩:=nh (a++[o]) (by simp;omega);have XA:=HW (a++[o]);obtain⟨hob,agO⟩:=Pw (a++[o]);have aku:=aa2 hna o;generalize hb:ur (a++[o])=b at anQ XA hob agO aku
 have t1:List.take (if(6:Int)<(l.length:Int)then(6:Int)else(l.length:Int)).toNat (l.map Qq)=(l.take 6).map Qq:=by
  have:=Qdz (l.map Qq) 6;rw[zzbf]at this;rw[zzhl];exact this
 have a1:=s5 (a:=l.length) 6;have b1:=tc (a:=l.length) 6;simp at a1 b1;refine Qn aoQ (Yo q a b rta rtb) (by simp) ?_;simp[anP,hd7,Qc,Qq,Qd,Qg,Qi,Yo,t1,a1,b1];refine⟨k11,k28,?_,?_⟩
 ·rw[<- zzhl];exact auh
 refine Xy ?_;simp[Yo];rw[zzby]at anQ;refine⟨⟨fun _ _=>rfl,by omega⟩,⟨by rintro row (⟨_,_,rfl⟩|rfl)<;>rfl,by omega⟩,anQ,?_⟩;refine an.wka (xs':=[.sl .ro ([q].map Qc),.sl .ro (a.map Qq)]) ⟨Wk.sl _ _,Wk.sl _ _,trivial⟩ ?_;refine rS Y0 _ [q] a hps OW (by omega) _ (fun hn ex ls=>?_) (fun Ma hMa ex ls md pid aQ bn bQ z IB hV aH hB aS dQ=>?_)
 ·simp;refine an.wka (xs':=[.sl .ro ([q].map Qc),.sl .ro (b.map Qq)]) ⟨Wk.sl _ _,Wk.sl _ _,trivial⟩ ?_;refine rS Y0 _ [q] b hps hob (by omega) _ (fun nA dW ls2=>?_) (fun Mb hMb dW ls2 Pz yS yT uu yU z2 axS hV2 dD oB agJ aae=>?_)
  ·simp[rs7]
  rw[qj hps.sh hna]at hn;rw[(qj hps.sh XA).2 hn]at hMb;cases hMb
 simp;refine an.wka (xs':=[.sl .ro ([q].map Qc),.sl .ro (b.map Qq)]) ⟨Wk.sl _ _,Wk.sl _ _,trivial⟩ ?_;refine rS Y0 _ [q] b hps hob (by omega) _ (fun nA dW ls2=>?_) (fun Mb hMb dW ls2 Pz yS yT uu yU z2 axS hV2 dD oB agJ aae=>?_)
 ·rw[qj hps.sh XA]at nA;rw[(qj hps.sh hna).2 nA]at hMa;cases hMa
 have hma:=hV.mok;have eD:=hV2.mok;have fq:=aS.own hB.hrts;have nP:=agJ.own oB.hrts;have hBa:=hB.ext dW;simp only at hBa oB;simp;generalize hBB:([Qc q,Qq o]++ex++dW:List (List AV))=BB;have hBa:gA BB md Ma pid aQ bn bQ z:=by rw[<- hBB];simpa[Qc,Qq,Qd,Qg,Qi]using hBa
 have hBb:gA BB Pz Mb yS yT uu yU z2:=by rw[<- hBB];simpa[Qc,Qq,Qd,Qg,Qi]using oB
 have eG:∀C,Qh (BB++C) 0=Qc q:=fun C=>by rw[<- hBB];simp
 have hBl:2<=BB.length:=by rw[<- hBB];simp
 refine Qj tH (aue fs.length BB) (fun g _=>fs.length-(numOf (g 15)).toNat) ?_ ?_
 ·exact⟨0,[],_,_,_,by simp,by omega,by rw[<- hBB];simp[Qc,Qq,Qd,Qg,Qi];exact⟨rfl,rfl,rfl⟩⟩
 rintro g m ⟨i,C,ls3,ms3,mn3,iN,hi,rfl⟩;rcases zzaa i fs.length with ai|bu
 ·obtain⟨f,IC⟩:=aR ai;have hff:=Ti f (zzac IC);have ah:Qh (fs.map Qy) i=Qy f:=Qs (by simp[IC]);have aa:(i:Int)<(fs.length:Int):=by omega
  have eX:IntKind.i64.wrap 1=1:=by rw[Qk]<;>omega
  have hw:=bK i (by omega);by_cases h30:i<30
  ·have anR:(i:Int)<30:=by omega
   have hcb:=Py Mb.os f;rw[dD]at hcb;simp[iN,tH,ai,aa,ah,Qy,h30,anR,Yo];refine Kw Y0 _ Pz Mb yS yT uu yU z2 f (hBb.ext C) eD.os _ ?_;have c1:¬fA f Mb.os<0:=by omega
   have c2:¬Vw f Mb.os<fA f Mb.os:=by omega
   have c3:¬(b.length:Int)<Vw f Mb.os:=by omega
   simp[c1,c2,c3,Yo]
   have aa8:b=a/\Mb=Ma\/∃x,b=a++[x]/\(x.fr<=f\/(f<x.fr/\fA f Mb.os=fA f Ma.os/\Vw f Mb.os=Vw f Ma.os/\Xt Mb q.ch r f=Xt Ma q.ch r f)):=by
    obtain rfl|⟨x,rfl,_⟩:=aku
    ·exact .inl ⟨rfl,by rw[hMa]at hMb;exact(Option.some.inj hMb).symm⟩
    refine .inr ⟨x,rfl,?_⟩;have hN:=aa3 hMa hMb;rcases(show f<x.fr\/x.fr<=f by omega)with hx|hx
    ·obtain⟨v1,v2⟩:=HX hN hx;exact .inr ⟨hx,v2,v1,aa5 hN hV q.ch r hx⟩
    exact .inl hx
   cases i with
   |zero=>
    simp;refine D0 q a b rta rtb r f hff _ (BB++C) ls3 ms3 mn3 _ md Ma pid aQ bn bQ z (hBa.ext C) hma fq Pz Mb yS yT uu yU z2 (hBb.ext C) eD nP (fun X=>by rw[zzax];exact eG _) (by simp;omega) agN agO (by simp) (by simp) (by simp) (by simp) (by simp) (by simp) (by simp) (by simp) (by simp) aa8 ?_ ?_
    ·intro E' D bX kK kL HY;have HZ:=HY 15 (.inl (by omega));simp at HZ;simp[HZ,iN,tH];refine⟨ag ?_,⟨1,C++D,bX,kK,kL,by simp[eX],by omega,by simp⟩,by omega⟩;refine Qa _ rfl (Qa _ rfl (Qa _ rfl fun t ht=>?_));rw[HY t (lR t ht)];exact(show dy _ _ _ by repeat(first|exact Qb _ _|refine Qa _ rfl ?_)) t ht
    intro E' D bX kK kL HY;have HZ:=HY 15 (.inl (by omega));simp at HZ;simp[HZ,iN,tH];refine⟨ag ?_,⟨1,C++D,bX,kK,kL,by simp[eX],by omega,by simp⟩,by omega⟩;refine Qa _ rfl (Qa _ rfl (Qa _ rfl fun t ht=>?_));rw[HY t (lR t ht)];exact(show dy _ _ _ by repeat(first|exact Qb _ _|refine Qa _ rfl ?_)) t ht
   |succ j=>
    obtain⟨f0,hf0⟩:∃f0,fs[j]?=some f0:=⟨_,zzad (by omega)⟩;have aa9:Qh (fs.map Qy) j=Qy f0:=Qs (by simp[hf0]);have sM:IntKind.i64.wrap (j:Int)=(j:Int):=by rw[Qk]<;>omega
    have dG:IntKind.i64.wrap ((j:Int)+1+1)=((j+1+1:Nat):Int):=by rw[Qk]<;>omega
    have dU:(0:Int)<(j:Int)+1:=by omega
    have gN:j<fs.length:=by omega
    simp only[Qy]at aa9;by_cases bZ:f0<=f
    ·have hm:=aa4 Mb.os bZ;have d1:¬fA f Mb.os<fA f0 Mb.os:=by omega
     have d2:¬Vw f Mb.os<Vw f0 Mb.os:=by omega
     simp[sM,aa9,bZ,dU,gN,Yo];refine Kw Y0 _ Pz Mb yS yT uu yU z2 f0 (hBb.ext C) eD.os _ ?_;simp[d1,d2,Yo];refine D0 q a b rta rtb r f hff _ (BB++C) ls3 ms3 mn3 _ md Ma pid aQ bn bQ z (hBa.ext C) hma fq Pz Mb yS yT uu yU z2 (hBb.ext C) eD nP (fun X=>by rw[zzax];exact eG _) (by simp;omega) agN agO (by simp) (by simp) (by simp) (by simp) (by simp) (by simp) (by simp) (by simp) (by simp) aa8 ?_ ?_
     ·intro E' D bX kK kL HY;have HZ:=HY 15 (.inl (by omega));simp at HZ;simp[HZ,iN,tH];refine⟨ag ?_,⟨j+1+1,C++D,bX,kK,kL,by simp[dG],by omega,by simp⟩,by omega⟩;refine Qa _ rfl (Qa _ rfl (Qa _ rfl fun t ht=>?_));rw[HY t (lR t ht)];exact(show dy _ _ _ by repeat(first|exact Qb _ _|refine Qa _ rfl ?_)) t ht
     intro E' D bX kK kL HY;have HZ:=HY 15 (.inl (by omega));simp at HZ;simp[HZ,iN,tH];refine⟨ag ?_,⟨j+1+1,C++D,bX,kK,kL,by simp[dG],by omega,by simp⟩,by omega⟩;refine Qa _ rfl (Qa _ rfl (Qa _ rfl fun t ht=>?_));rw[HY t (lR t ht)];exact(show dy _ _ _ by repeat(first|exact Qb _ _|refine Qa _ rfl ?_)) t ht
    simp[sM,aa9,bZ,dU,gN,Yo];refine D0 q a b rta rtb r f hff _ (BB++C) ls3 ms3 mn3 _ md Ma pid aQ bn bQ z (hBa.ext C) hma fq Pz Mb yS yT uu yU z2 (hBb.ext C) eD nP (fun X=>by rw[zzax];exact eG _) (by simp;omega) agN agO (by simp) (by simp) (by simp) (by simp) (by simp) (by simp) (by simp) (by simp) (by simp) aa8 ?_ ?_
    ·intro E' D bX kK kL HY;have HZ:=HY 15 (.inl (by omega));simp at HZ;simp[HZ,iN,tH];refine⟨ag ?_,⟨j+1+1,C++D,bX,kK,kL,by simp[dG],by omega,by simp⟩,by omega⟩;refine Qa _ rfl (Qa _ rfl (Qa _ rfl fun t ht=>?_));rw[HY t (lR t ht)];exact(show dy _ _ _ by repeat(first|exact Qb _ _|refine Qa _ rfl ?_)) t ht
    intro E' D bX kK kL HY;have HZ:=HY 15 (.inl (by omega));simp at HZ;simp[HZ,iN,tH];refine⟨ag ?_,⟨j+1+1,C++D,bX,kK,kL,by simp[dG],by omega,by simp⟩,by omega⟩;refine Qa _ rfl (Qa _ rfl (Qa _ rfl fun t ht=>?_));rw[HY t (lR t ht)];exact(show dy _ _ _ by repeat(first|exact Qb _ _|refine Qa _ rfl ?_)) t ht
  have anR:¬(i:Int)<30:=by omega
  simp[iN,tH,aa,anR,h30,rs7]
 obtain rfl:i=fs.length:=by omega
 simp[iN,tH,rs7]
end
end Go.Proofs.YtnopaopphmjnmaaGreatDoor
