import Derived.Test.YthjppoincojfkaaGreatDoorRSRpO
set_option linter.all false
set_option maxRecDepth 100000
set_option maxHeartbeats 64000000
namespace Go.Proofs.YthjppoincojfkaaGreatDoor
open Go Go.Abs
def IP(id:Int):List bn->Int->bn->Int×Bool
 |[],first,_=>(first,true)
 |e::r,first,last=>if e.id≠id then IP id r first last else
  if first<0 then(if e.i≠0 then(0,false)else IP id r e.st e)
  else if e.st≠last.st+last.fr\/e.i≠last.i+last.fr\/e.it≠last.it then(0,false)else IP id r first e
def zE2:bn:=⟨0,0,0,0,0,0,[],true⟩
def mH(L:List bn)(id:Int):Int×Bool:=IP id L (-1) zE2
def rS{id:Int}:∀{L:List bn}{first:Int}{last:bn},0<=first->gJ last (dm id L)->IP id L first last=(first,true)
 |[],_,_,_,_=>rfl
 |e::r,first,last,h0,h=>by
  unfold dm at h;rw[zzcx]at h;split at h
  ·rename_i hi;have hi:e.id=id:=by simpa using hi
   obtain⟨h1,h2,h3,h4⟩:=h;rw[IP,if_neg (by simp[hi]),if_neg zE,if_neg (by simp[h1,h2,h3])];exact rS h0 h4
  rename_i hn;rw[IP,if_pos (Nm hn)];exact rS h0 h
def BL{id:Int}{last:bn}:∀{L:List bn},uj (dm id L)->(∀e∈L,0<=e.st)->(dm id L=[]/\IP id L (-1) last=(-1,true))\/∃a r,dm id L=a::r/\0<=a.st/\IP id L (-1) last=(a.st,true)
 |[],_,_=>.inl ⟨rfl,rfl⟩
 |e::r,h,hs=>by
  by_cases hi:e.id=id
  ·have e1:dm id (e::r)=e::dm id r:=by
    unfold dm;rw[zzcy (Nm hi)]
   rw[e1]at h |-
   have h0:=hs e zd;refine .inr ⟨e,_,rfl,h0,?_⟩;rw[IP,if_neg (by simp[hi]),if_pos zE,if_neg (by simp[h.1])];exact rS h0 h.2
  have e1:dm id (e::r)=dm id r:=by
   unfold dm;rw[zzdf (Nm hi)]
  rw[e1]at h |-
  have e2:IP id (e::r) (-1) last=IP id r (-1) last:=by rw[IP,if_pos hi]
  rw[e2];exact BL h fun x hx=>hs x (by simp[hx])
def yV(l:bn)(V:AV):P2:=[I l.id,I l.it,I l.st,I l.fr,I l.i,I l.re,V]
def SmE(l:bn):Prop:=(0<=l.st/\l.st<=1000000)/\(0<=l.fr/\l.fr<=1000000)/\(0<=l.i/\l.i<=1000000)
def atQ(L:List bn)(id:Int)(f:Nat->AV)(m:AM):Prop:=
 ∃(k:Nat)(first:Int)(last:bn)(V:AV)(bx:T5),f 8=I k/\f 6=I first/\k<=L.length/\SmE last/\IP id (L.drop k) first last=mH L id/\m=⟨yV last V::bx,[],fun _=>.gone,0⟩
def am8(L:List bn)(id:Int)(hL:L.length<=1000000000)(hs:∀e∈L,Jt e):Pure Tryz.prog aD 19 [.sl .ro (L.map Qf),I id] (.aS [I (mH L id).1,.bool (mH L id).2]):=by
 refine Qp ajH (fun _ _ _=>.junk) zd ?_;simp[ajG];refine Qi ow (atQ L id) (fun f _=>L.length-(numOf (f 8)).toNat) ?_ ?_
 ·exact⟨0,-1,zE2,.sl .nil [],[],zd,zd,zE,by simp[SmE,zE2],rfl,rfl⟩
 rintro f m ⟨k,first,last,V,bx,f8,f6,hk,fT,hr,rfl⟩;rcases zzaa k L.length with ah|bq
 ·have fk:(k:Int)<(L.length:Int):=zE
  have sF:IntKind.i64.wrap ((k:Int)+1)=(k:Int)+1:=by rw[Ql]<;>omega
  obtain⟨e,he⟩:=aV ah;have hd:L.drop k=e::L.drop (k+1):=by rw[zzag ah,(zza.1 he).2]
  have r1:Qh (L.map Qf) k=Qf e:=Qu (by simp[he]);obtain⟨t1,t2,t3,_⟩:=hs e (zzad he);have hse:SmE e:=⟨t1,t2,t3⟩;obtain⟨⟨u1,u2⟩,⟨u3,u4⟩,u5,u6⟩:=fT;have gU:IntKind.i64.wrap (last.st+last.fr)=last.st+last.fr:=by rw[Ql]<;>omega
  have eL:IntKind.i64.wrap (last.i+last.fr)=last.i+last.fr:=by rw[Ql]<;>omega
  have fT:SmE last:=⟨⟨u1,u2⟩,⟨u3,u4⟩,u5,u6⟩;rw[hd,IP]at hr;simp only[Qf]at r1;by_cases hi:e.id=id
  ·rw[if_neg (by simp[hi])]at hr;subst hi;by_cases hf:first<0
   ·have hf0:¬0<=first:=zE
    rw[if_pos hf]at hr;by_cases h0:e.i=0
    ·rw[if_neg (by simp[h0])]at hr;rw[h0]at r1;simp[f8,f6,ow,fk,sF,r1,yV,hf,hf0]
     repeat' first
      |exact⟨k+1,e.st,e,.sl .ro (e.al.map Qe),_,zd,zd,zE,hse,hr,by simp[yV,h0];rfl⟩
      |omega
      |exact Qb _ _
      |refine Qc _ rfl ?_
      |refine ag ?_
      |refine And.intro ?_ ?_
    rw[if_pos (Nm h0)]at hr;simp[f8,f6,ow,fk,sF,r1,yV,hf,hf0,h0,Pc,<- hr]
   have Nw:0<=first:=zE
   rw[if_neg hf]at hr;by_cases h1:e.st=last.st+last.fr
   ·by_cases h2:e.i=last.i+last.fr
    ·by_cases h3:e.it=last.it
     ·rw[if_neg (by simp[h1,h2,h3])]at hr;simp[f8,f6,ow,fk,sF,r1,yV,hf,Nw,gU,eL,h1,h2,h3]
      repeat' first
       |exact⟨k+1,first,e,.sl .ro (e.al.map Qe),_,zd,by simp[f6],zE,hse,hr,by simp[yV,h1,h2,h3];rfl⟩
       |omega
       |exact Qb _ _
       |refine Qc _ rfl ?_
       |refine ag ?_
       |refine And.intro ?_ ?_
     rw[if_pos (by simp[h3])]at hr;simp[f8,f6,ow,fk,sF,r1,yV,hf,Nw,gU,eL,h1,h2,h3,Pc,<- hr]
    rw[if_pos (by simp[h2])]at hr;simp[f8,f6,ow,fk,sF,r1,yV,hf,Nw,gU,eL,h1,h2,Pc,<- hr]
   rw[if_pos (by simp[h1])]at hr;simp[f8,f6,ow,fk,sF,r1,yV,hf,Nw,gU,eL,h1,Pc,<- hr]
  rw[if_pos hi]at hr;simp[f8,f6,ow,fk,sF,r1,yV,hi]
  repeat' first
   |exact⟨k+1,first,last,V,_,zd,by simp[f6],zE,fT,hr,by simp[yV];rfl⟩
   |omega
   |exact Qb _ _
   |refine Qc _ rfl ?_
   |refine ag ?_
   |refine And.intro ?_ ?_
 obtain rfl:k=L.length:=zE
 rw[zzbt,IP]at hr;simp[f8,f6,ow,Pc,<- hr]
def atS(l:Pi)(n:Int)(f:Nat->AV)(m:AM):Prop:=∃(k:Nat),f 5=I k/\k<=l.length/\n ∉ l.take k/\m=⟨[],[],fun _=>.gone,0⟩
def atT(l:Pi)(n:Int)(hl:l.length<=1000000000):Pure Tryz.prog aD 20 [.sl .ro (l.map Qy),I n] (.bool (decide (n∈l))):=by
 refine Qp ajJ (fun _ _ _=>.junk) zd ?_;simp[aoC];refine Qi My (atS l n) (fun f _=>l.length-(numOf (f 5)).toNat) ?_ ?_
 ·exact⟨0,zd,zE,zd,rfl⟩
 rintro f m ⟨k,f5,hk,hn,rfl⟩;rcases zzaa k l.length with ah|bq
 ·have fk:(k:Int)<(l.length:Int):=zE
  have sF:IntKind.i64.wrap ((k:Int)+1)=(k:Int)+1:=by rw[Ql]<;>omega
  obtain⟨x,hx⟩:=aV ah;have r1:Qh (l.map Qy) k=[I x]:=Qu (by simp[hx,Qy]);by_cases hxn:x=n
  ·subst hxn;have hm:x∈l:=zzad hx;simp[f5,My,fk,sF,r1,ajI,hm]
  have vV:n ∉ l.take (k+1):=by
   have e1:l.take (k+1)=l.take k++[x]:=by rw[List.take_succ,hx];rfl
   rw[e1,zzao,zzcg];rintro(h|h)
   ·exact hn h
   exact hxn h.symm
  simp[f5,My,fk,sF,r1,hxn]
  repeat' first
   |exact⟨k+1,zd,zE,vV,rfl⟩
   |omega
   |exact Qb _ _
   |refine Qc _ rfl ?_
   |refine ag ?_
   |refine And.intro ?_ ?_
 obtain rfl:k=l.length:=zE
 rw[zzbu]at hn;simp[f5,My,ajI,hn]
