import Derived.Test.YthjppoincojfkaaGreatDoorRBMcR
import Derived.Test.YthjppoincojfkaaGreatDoorCards
import Derived.Deep.DeepHandedRow
import Derived.Lib.LaidTab
import Derived.MakeChecks
set_option linter.all false
set_option maxRecDepth 100000
namespace Go.Proofs.YthjppoincojfkaaGreatDoor
open Go Go.Abs Go.RowKit
def isI(a:AV):Bool:=match a with
 |.int _ _=>true
 |_=>false
def afx{a:AV}(h:isI a=true){w:World}{γ γ':G}{v:Value}(hr:aA w γ a v):v.oneCell'=true/\aA w γ' a v:=by
 cases hr<;>simp[isI]at h;exact⟨rfl,.int _ _⟩
def LP{P:Program}{W:World}{name:String}{d:DataW Unit}{rest:List (String×DataW Unit)}{g:Nat}{t:TypeId}{D:Nat}{row:P2}(h:∃ps,DataW.LaidVars P W ((name,d)::rest) ps)
  (hg:P.globalNamed name=some g)(hty:(P.globals[g]?).map (·.type)=some t)(bU:WA P D t=true)(hav:cE P D t d=row)(hi:row.all isI=true)(aN:row≠[]):aA W (G0 Fm) (.ep row 0) (.pointer (some ⟨g,0,none⟩)):=by
 obtain⟨ps,g',t',cs,aT,p,q,hg',XU,axZ,hd,_,_⟩:=h;obtain rfl:=Option.some.inj (hg.symm.trans hg');obtain rfl:=Option.some.inj (hty.symm.trans XU);obtain⟨_,hr,_,_⟩:=jm D aT t cs.toList d p hd bU;rw[hav]at hr
 have bL:∀(j:Nat)(c:AV),row[j]?=some c->W.cell? ⟨g,j,none⟩=some (cs.toList.getD j undef)/\(cs.toList.getD j undef).oneCell'=true/\aA W (G0 Fm).cU c (cs.toList.getD j undef):=by
  intro j c hj;have ai:j<row.length:=(zza.1 hj).1;have bZ:j<cs.toList.length:=by rw[<- hr.1];exact ai
  have hv:cs.toList[j]?=some (cs.toList.getD j undef):=by rw[zzav,zzaf bZ];rfl
  have hc:=World.var?_cell hg axZ j;have h1:=hr.2 j c _ hj hv;have h2:isI c=true:=zzaw.1 hi c (zzad hj);obtain⟨h3,h4⟩:=afx h2 (γ':=(G0 Fm).cU) h1;refine⟨?_,h3,h4⟩;rw[hc,<- zzca];exact hv
 have hsz:g<W.heap.size:=by
  obtain⟨a,r,rfl⟩:=List.exists_cons_of_ne_nil aN;have:=(bL 0 a rfl).1;simp only[World.cell?]at this;rcases zzaa g W.heap.size with h|h
  ·exact h
  rw[zzbo zE]at this;simp at this
 refine aA.ep (o:=0) (b:=g) (off:=0) (fun j=>cs.toList.getD j undef) hsz (fun j c hj=>?_) (fun j c hj=>(bL j c hj).2.2);obtain⟨h1,h2,_⟩:=bL j c hj;refine⟨Nm h1,trivial,h2⟩
def aaf:cE Tryz.prog 5 339 (Rows.laid_onair_timecode_rates:DataW Unit)=Ho:=by
 unfold Rows.laid_onair_timecode_rates;have h3:∀n:Int,cE Tryz.prog 2 3 (.lit (.int .i64 n):DataW Unit)=[I n]:=fun n=>Zd Tryz.underlying3 _ _;have h3':∀n:Int,cE Tryz.prog 3 3 (.lit (.int .i64 n):DataW Unit)=[I n]:=fun n=>Zd Tryz.underlying3 _ _
 have h23:∀a b:Int,cE Tryz.prog 3 23 (.agg [.lit (.int .i64 a),.lit (.int .i64 b)]:DataW Unit)=[I a,I b]:=fun a b=>by
  rw[Ut Tryz.underlying23];simp[h3]
 have ax0:∀a b c d:Int,cE Tryz.prog 4 295 (.agg [.agg [.lit (.int .i64 a),.lit (.int .i64 b)],.lit (.int .i64 c),.lit (.int .i64 d)]:DataW Unit)=[I a,I b,I c,I d]:=fun a b c d=>by
  rw[Ut Tryz.underlying295];simp[h3',h23]
 rw[P4 Tryz.underlying339];simp only[zzdt,zzeh,ax0];rfl
def amY{W:World}{rest:List (String×DataW Unit)}(h:laidMet Tryz.prog (("onair/timecode.rates",Rows.laid_onair_timecode_rates)::rest) W):∀g,aA W (G0 Fm) (aD g) (.pointer (some ⟨g,0,none⟩)):=by
 intro g;obtain⟨ps,h,_⟩:=h
 match g with
 |0=>exact .junk _
 |1=>exact .junk _
 |2=>exact LP (D:=5) ⟨ps,h⟩ (g:=2) (t:=339) (by kernel_rfl) (by kernel_rfl) (by kernel_rfl) aaf (by decide) (by simp[Ho])
 |g+3=>exact .junk _
def Yl{m:Int}(h:(Lit.int .i64 m).wf=true):Xz m:=by
 simp[Lit.wf,IntKind.min,IntKind.max,IntKind.bits,IntKind.signed]at h;unfold Xz;omega
def Sz{H:Type}(t:TypeId)(x:DataW H):Prop:=∀k∈x.weights Tryz.prog t,k<=reachBytes
def Sz.all{H:Type}{e:TypeId}{l:List (DataW H)}(h:∀k∈DataW.weightsAll Tryz.prog e l,k<=reachBytes):∀y∈l,Sz e y:=by
 induction l with
 |nil=>intro y hy;cases hy
 |cons a l ih=>
  intro y hy;simp only[DataW.weightsAll,zzam]at h;rcases zzaq.1 hy with rfl|hy
  ·exact fun k hk=>h k (.inl hk)
  exact ih (fun k hk=>h k (.inr hk)) y hy
def Sz.slice{H:Type}{t e:TypeId}{bM spare:List (DataW H)}(hu:Tryz.prog.underlying t=some (.slice e))(h:Sz t (.slice bM spare:DataW H)):(bM.length+spare.length)*Tryz.prog.bytesOf e<=reachBytes/\∀y∈bM,Sz e y:=by
 unfold Sz at h;simp only[DataW.weights,hu]at h;refine⟨h _ zd,Sz.all fun k hk=>h k (by simp[hk])⟩
def Sz.agg{H:Type}{t:TypeId}{fs:Array Field}{parts:List (DataW H)}(hu:Tryz.prog.underlying t=some (.struct fs))(h:Sz t (.agg parts:DataW H)):∀k∈DataW.weightsEach Tryz.prog (fs.toList.map (·.type)) parts,k<=reachBytes:=by
 unfold Sz at h;simpa only[DataW.weights,hu]using h
def Wd{H:Type}{α:Type}(row:α->P2)(ok:α->Prop){t e:TypeId}(hu:Tryz.prog.underlying t=some (.slice e)){n:Nat}(iE:∀y:DataW H,Typed Tryz.prog n e y->Sz e y->∃a,ok a/\cE Tryz.prog n e y=row a)
  {x:DataW H}(h:Typed Tryz.prog (n+1) t x)(hs:Sz t x):∃(l:List α)(rt:Rt),(∀a∈l,ok a)/\l.length*Tryz.prog.bytesOf e<=reachBytes/\l.length<=maxLen/\cE Tryz.prog (n+1) t x=[.sl rt (l.map row)]:=by
 rcases Fy hu h with rfl|⟨bM,spare,rfl,hl,he⟩
 ·exact⟨[],.nil,(fun _ h=>by cases h),(by rw[zzcn,zzhi];exact zzbp _),zzbp _,aed hu⟩
 obtain⟨hz,Cn⟩:=hs.slice hu
 have key:∃X:List α,(∀y∈X,ok y)/\bM.map (cE Tryz.prog n e)=X.map row:=by
  clear hl h hz hs;induction bM with
  |nil=>exact⟨[],zd,rfl⟩
  |cons y ys ih=>
   obtain⟨X,h1,h2⟩:=ih (fun z hz=>he z (by simp[hz])) (fun z hz=>Cn z (by simp[hz]));obtain⟨q,hq,hv⟩:=iE y (he y zd) (Cn y zd);refine⟨q::X,?_,by rw[zzaz,h2,hv];rfl⟩;intro z hz;rcases zzaq.1 hz with rfl|hz
   ·exact hq
   exact h1 z hz
 obtain⟨X,h1,h2⟩:=key;have aH:X.length=bM.length:=by have:=congrArg List.length h2;simpa using this.symm
 refine⟨X,.nn,h1,?_,zE,by rw[alI hu,h2]⟩;rw[aH];refine zzbb (zzbc _ (Nat.le_add_right _ _)) hz
def OB{α:Type}{l:List α}(h:l.length=2):∃a b,l=[a,b]:=by
 match l,h with
 |[a,b],_=>exact⟨a,b,rfl⟩
def OC{α:Type}{l:List α}(h:l.length=5):∃a0 a1 a2 a3 a4,l=[a0,a1,a2,a3,a4]:=by
 match l,h with
 |[a0,a1,a2,a3,a4],_=>exact⟨a0,a1,a2,a3,a4,rfl⟩
def Hp{α:Type}{l:List α}(h:l.length=7):∃a0 a1 a2 a3 a4 a5 a6,l=[a0,a1,a2,a3,a4,a5,a6]:=by
 match l,h with
 |[a0,a1,a2,a3,a4,a5,a6],_=>exact⟨a0,a1,a2,a3,a4,a5,a6,rfl⟩
def aag{α:Type}{l:List α}(h:l.length=8):∃a0 a1 a2 a3 a4 a5 a6 a7,l=[a0,a1,a2,a3,a4,a5,a6,a7]:=by
 match l,h with
 |[a0,a1,a2,a3,a4,a5,a6,a7],_=>exact⟨a0,a1,a2,a3,a4,a5,a6,a7,rfl⟩
def RN{α:Type}{l:List α}(h:l.length=11):∃a0 a1 a2 a3 a4 a5 a6 a7 a8 a9 a10,l=[a0,a1,a2,a3,a4,a5,a6,a7,a8,a9,a10]:=by
 match l,h with
 |[a0,a1,a2,a3,a4,a5,a6,a7,a8,a9,a10],_=>exact⟨a0,a1,a2,a3,a4,a5,a6,a7,a8,a9,a10,rfl⟩
def Hq{H:Type}{n:Nat}:∀(L:List Field)(parts:List (DataW H)),(∀f∈L,f.type=3)->(∀p∈L.zip parts,Typed Tryz.prog (n+1) p.1.type p.2)->parts.length=L.length->
  ∃l:Pi,l.length=L.length/\(∀m∈l,Xz m)/\(L.zip parts).flatMap (fun p=>cE Tryz.prog (n+1) p.1.type p.2)=l.map I
 |[],parts,_,_,_=>⟨[],rfl,(fun _ h=>by cases h),by cases parts<;>rfl⟩
 |f::L,[],_,_,h=>by simp at h
 |f::L,a::parts,bC,hp,hl=>by
  obtain⟨l,l1,l2,l3⟩:=Hq L parts (fun g hg=>bC g (zzdh _ hg)) (fun p U9=>hp p (zzdh _ U9)) (Nm hl);have ha:=hp (f,a) zd;have hf:=bC f zd;rw[hf]at ha;obtain⟨m,rfl,w⟩:=Xl Tryz.underlying3 ha;refine⟨m::l,by simp[l1],?_,?_⟩
  ·intro k hk;rcases zzaq.1 hk with rfl|hk
   ·exact Yl w
   exact l2 k hk
  simp only[zzdf,zzdt,hf];rw[Zd Tryz.underlying3,l3];rfl
def p9{H:Type}{t:TypeId}{fs:Array Field}(hu:Tryz.prog.underlying t=some (.struct fs))(bC:∀f∈fs.toList,f.type=3){y:DataW H}{n:Nat}(h:Typed Tryz.prog (n+2) t y):
  ∃l:Pi,l.length=fs.size/\(∀m∈l,Xz m)/\cE Tryz.prog (n+2) t y=l.map I:=by
 obtain⟨parts,rfl,aH,hp⟩:=Uu hu h;rw[Ut hu];obtain⟨l,l1,l2,l3⟩:=Hq fs.toList parts bC hp (Nm aH);exact⟨l,Nm l1,l2,l3⟩
def aah(s:Sp):Prop:=Xz s.1/\Xz s.2
def DN{H:Type}{t:TypeId}{f g:Field}(hu:Tryz.prog.underlying t=some (.struct #[f,g]))(hf:f.type=3)(hg:g.type=3){y:DataW H}{n:Nat}(h:Typed Tryz.prog (n+2) t y):∃s:Sp,aah s/\cE Tryz.prog (n+2) t y=Qf s:=by
 obtain⟨l,l1,l2,l3⟩:=p9 hu (by simp[hf,hg]) h;obtain⟨a,b,rfl⟩:=OB (show l.length=2 from l1);exact⟨(a,b),⟨l2 a zd,l2 b zd⟩,l3⟩
def amZ(x:It):Prop:=Xz x.id/\Xz x.ki/\Xz x.fr/\Xz x.sp/\Xz x.ra
def am0(x:Cl):Prop:=Xz x.ki/\Xz x.it/\Xz x.fr/\Xz x.to/\Xz x.re/\Xz x.n/\Xz x.a/\Xz x.b
def am1(x:Bk):Prop:=Xz x.id/\Xz x.it/\Xz x.re/\Xz x.fr/\Xz x.to/\Xz x.un/\Xz x.pr
def afy(x:En):Prop:=(Xz x.id/\Xz x.it/\Xz x.fr/\Xz x.ea/\Xz x.la/\Xz x.bo)/\x.al.length<=8796093022208/\∀a∈x.al,aah a
structure atG (p:Pl):Prop where
 ch:Xz p.ch
 nu:Xz p.nu
 de:Xz p.de
 of:Xz p.of
 ep:Xz p.ep
 rg:Xz p.rg
 ln:Xz p.ln
 fi:Xz p.fi
 sh:∀s∈p.sh,aah s
 aM:∀s∈p.aM,amZ s
 ens:∀s∈p.ens,afy s
 bks:∀s∈p.bks,am1 s
 cls:∀s∈p.cls,am0 s
 shl:p.sh.length<=8796093022208
 itl:p.aM.length<=8796093022208
 enl:p.ens.length<=8796093022208
 bkl:p.bks.length<=8796093022208
 cll:p.cls.length<=8796093022208
def aai{H:Type}{y:DataW H}{n:Nat}(h:Typed Tryz.prog (n+2) 59 y):∃x:It,amZ x/\cE Tryz.prog (n+2) 59 y=Qh x:=by
 obtain⟨l,l1,l2,l3⟩:=p9 Tryz.underlying59 zd h;obtain⟨a0,a1,a2,a3,a4,rfl⟩:=OC (show l.length=5 from l1);exact⟨⟨a0,a1,a2,a3,a4⟩,⟨l2 _ zd,l2 _ zd,l2 _ zd,l2 _ zd,l2 _ zd⟩,l3⟩
def yJ{H:Type}{y:DataW H}{n:Nat}(h:Typed Tryz.prog (n+2) 49 y):∃x:Cl,am0 x/\cE Tryz.prog (n+2) 49 y=Qi x:=by
 obtain⟨l,l1,l2,l3⟩:=p9 Tryz.underlying49 zd h;obtain⟨a0,a1,a2,a3,a4,a5,a6,a7,rfl⟩:=aag (show l.length=8 from l1);exact⟨⟨a0,a1,a2,a3,a4,a5,a6,a7⟩,⟨l2 _ zd,l2 _ zd,l2 _ zd,l2 _ zd,l2 _ zd,l2 _ zd,l2 _ zd,l2 _ zd⟩,l3⟩
def Hr{H:Type}{y:DataW H}{n:Nat}(h:Typed Tryz.prog (n+2) 130 y):∃x:Bk,am1 x/\cE Tryz.prog (n+2) 130 y=Xj x:=by
 obtain⟨l,l1,l2,l3⟩:=p9 Tryz.underlying130 zd h;obtain⟨a0,a1,a2,a3,a4,a5,a6,rfl⟩:=Hp (show l.length=7 from l1);exact⟨⟨a0,a1,a2,a3,a4,a5,a6⟩,⟨l2 _ zd,l2 _ zd,l2 _ zd,l2 _ zd,l2 _ zd,l2 _ zd,l2 _ zd⟩,l3⟩
def LQ:Tryz.prog.bytesOf 59=40:=by kernel_rfl
def afz:Tryz.prog.bytesOf 64=16:=by kernel_rfl
def afA:Tryz.prog.bytesOf 47=72:=by kernel_rfl
def aaj:Tryz.prog.bytesOf 130=56:=by kernel_rfl
def aak:Tryz.prog.bytesOf 49=64:=by kernel_rfl
def aal:Tryz.prog.bytesOf 124=16:=by kernel_rfl
def yK(q:En×Rt):P2:=[I q.1.id,I q.1.it,I q.1.fr,I q.1.ea,I q.1.la,I q.1.bo,.sl q.2 (q.1.al.map Qf)]
def Bx{H:Type}{y:DataW H}{n:Nat}(h:Typed Tryz.prog (n+4) 47 y)(hs:Sz 47 y):∃q:En×Rt,afy q.1/\cE Tryz.prog (n+4) 47 y=yK q:=by
 obtain⟨parts,rfl,aH,hp⟩:=Uu Tryz.underlying47 h;obtain⟨a0,a1,a2,a3,a4,a5,a6,rfl⟩:=Hp aH;have hz:=hs.agg Tryz.underlying47;have t0:=hp (⟨ "ID",3,0,false, "", "",0⟩,a0) (by simp);have t1:=hp (⟨ "Item",3,1,false, "", "",8⟩,a1) (by simp);have t2:=hp (⟨ "Frames",3,2,false, "", "",16⟩,a2) (by simp);have t3:=hp (⟨ "Earliest",3,3,false, "", "",24⟩,a3) (by simp);have t4:=hp (⟨ "Latest",3,4,false, "", "",32⟩,a4) (by simp);have t5:=hp (⟨ "Booking",3,5,false, "", "",40⟩,a5) (by simp);have t6:=hp (⟨ "Alts",45,6,false, "", "",48⟩,a6) (by simp);obtain⟨m0,rfl,w0⟩:=Xl Tryz.underlying3 t0;obtain⟨m1,rfl,w1⟩:=Xl Tryz.underlying3 t1;obtain⟨m2,rfl,w2⟩:=Xl Tryz.underlying3 t2;obtain⟨m3,rfl,w3⟩:=Xl Tryz.underlying3 t3;obtain⟨m4,rfl,w4⟩:=Xl Tryz.underlying3 t4;obtain⟨m5,rfl,w5⟩:=Xl Tryz.underlying3 t5;have hs6:Sz 45 a6:=fun k hk=>hz k (by simp[DataW.weightsEach,hk]);obtain⟨l,rt,l1,l2,l3,l4⟩:=Wd Qf aah Tryz.underlying45 (fun y hy _=>DN Tryz.underlying64 rfl rfl hy) t6 hs6;rw[afz]at l2;have hr:reachBytes=140737488351232:=rfl;refine⟨(⟨m0,m1,m2,m3,m4,m5,l⟩,rt),⟨⟨Yl w0,Yl w1,Yl w2,Yl w3,Yl w4,Yl w5⟩,by simp only;omega,l1⟩,?_⟩;rw[Ut Tryz.underlying47];simp only[zzdf,zzeo,zzdt,zzeh];rw[Zd Tryz.underlying3,Zd Tryz.underlying3,Zd Tryz.underlying3,Zd Tryz.underlying3,Zd Tryz.underlying3,Zd Tryz.underlying3,l4];rfl
def am2(l:List (En×Rt))(rt:Rt):Wk (.sl rt (l.map yK)) (.sl .ro ((l.map (·.1)).map Qd)):=by
 refine Wk.trans (Wk.sl _ _) ?_;rw[zzct];refine Wk.rows l yK (Qd ∘ (·.1)) (fun _=>rfl) fun a j c' h=>?_
 match j,h with
 |0,h=>exact⟨_,rfl,by cases h;exact Ps⟩
 |1,h=>exact⟨_,rfl,by cases h;exact Ps⟩
 |2,h=>exact⟨_,rfl,by cases h;exact Ps⟩
 |3,h=>exact⟨_,rfl,by cases h;exact Ps⟩
 |4,h=>exact⟨_,rfl,by cases h;exact Ps⟩
 |5,h=>exact⟨_,rfl,by cases h;exact Ps⟩
 |6,h=>exact⟨_,rfl,by cases h;exact Wk.sl _ _⟩
 |j+7,h=>simp[Qd]at h
abbrev PlT:=Pl×List (En×Rt)×Rt×Rt×Rt×Rt×Rt
def LR(q:PlT):Pl:={q.1 with ens:=q.2.1.map (·.1)}
def am3(q:PlT):P2:=[I q.1.ch,I q.1.nu,I q.1.de,I q.1.of,.sl q.2.2.1 (q.1.sh.map Qf),I q.1.ep,I q.1.rg,I q.1.ln,I q.1.fi,.sl q.2.2.2.1 (q.1.aM.map Qh),.sl q.2.2.2.2.1 (q.2.1.map yK),.sl q.2.2.2.2.2.1 (q.1.bks.map Xj),.sl q.2.2.2.2.2.2 (q.1.cls.map Qi)]
def aam{H:Type}{x:DataW H}{n:Nat}(h:Typed Tryz.prog (n+6) 32 x)(hs:Sz 32 x):∃q:PlT,atG (LR q)/\cE Tryz.prog (n+6) 32 x=am3 q:=by
 obtain⟨parts,rfl,aH,hp⟩:=Uu Tryz.underlying32 h;obtain⟨a0,a1,a2,a3,a4,a5,a6,a7,a8,a9,a10,rfl⟩:=RN aH;have hz:=hs.agg Tryz.underlying32;have t0:=hp (⟨ "Channel",3,0,false, "", "",0⟩,a0) (by simp);have t1:=hp (⟨ "Rate",23,1,false, "", "",8⟩,a1) (by simp);have t2:=hp (⟨ "Zone",26,3,false, "", "",24⟩,a2) (by simp);have t3:=hp (⟨ "Epoch",3,5,false, "", "",56⟩,a3) (by simp);have t4:=hp (⟨ "Regions",3,6,false, "", "",64⟩,a4) (by simp);have t5:=hp (⟨ "Length",3,7,false, "", "",72⟩,a5) (by simp);have t6:=hp (⟨ "Fill",3,8,false, "", "",80⟩,a6) (by simp);have t7:=hp (⟨ "Items",27,9,false, "", "",88⟩,a7) (by simp);have t8:=hp (⟨ "Entries",28,10,false, "", "",112⟩,a8) (by simp);have t9:=hp (⟨ "Bookings",29,11,false, "", "",136⟩,a9) (by simp);have t10:=hp (⟨ "Clauses",30,12,false, "", "",160⟩,a10) (by simp);obtain⟨m0,rfl,w0⟩:=Xl Tryz.underlying3 t0;obtain⟨m3,rfl,w3⟩:=Xl Tryz.underlying3 t3;obtain⟨m4,rfl,w4⟩:=Xl Tryz.underlying3 t4;obtain⟨m5,rfl,w5⟩:=Xl Tryz.underlying3 t5;obtain⟨m6,rfl,w6⟩:=Xl Tryz.underlying3 t6;obtain⟨r,⟨r1,r2⟩,atH⟩:=DN Tryz.underlying23 rfl rfl t1;obtain⟨zp,rfl,ax1,zpp⟩:=Uu Tryz.underlying26 t2;obtain⟨z0,z1,rfl⟩:=OB ax1;have u0:=zpp (⟨ "Offset",3,0,false, "", "",0⟩,z0) (by simp);have u1:=zpp (⟨ "Shifts",24,1,false, "", "",8⟩,z1) (by simp);obtain⟨mo,rfl,wo⟩:=Xl Tryz.underlying3 u0;have s1:Sz 24 z1:=fun k hk=>hz k (by simp[DataW.weightsEach,DataW.weights,Tryz.underlying26,hk]);have s7:Sz 27 a7:=fun k hk=>hz k (by simp[DataW.weightsEach,hk]);have s8:Sz 28 a8:=fun k hk=>hz k (by simp[DataW.weightsEach,hk]);have s9:Sz 29 a9:=fun k hk=>hz k (by simp[DataW.weightsEach,hk]);have s10:Sz 30 a10:=fun k hk=>hz k (by simp[DataW.weightsEach,hk]);have hr:reachBytes=140737488351232:=rfl;obtain⟨sh,rt1,sh1,sh2,_,sh4⟩:=Wd Qf aah Tryz.underlying24 (fun y hy _=>DN Tryz.underlying124 rfl rfl hy) u1 s1;obtain⟨it,rt7,it1,it2,_,it4⟩:=Wd Qh amZ Tryz.underlying27 (fun y hy _=>aai hy) t7 s7;obtain⟨en,rt8,en1,en2,_,en4⟩:=Wd yK (fun q=>afy q.1) Tryz.underlying28 (fun y hy hz=>Bx hy hz) t8 s8;obtain⟨bk,rt9,bk1,bk2,_,bk4⟩:=Wd Xj am1 Tryz.underlying29 (fun y hy _=>Hr hy) t9 s9;obtain⟨cl,ax2,cl1,cl2,_,cl4⟩:=Wd Qi am0 Tryz.underlying30 (fun y hy _=>yJ hy) t10 s10;rw[aal]at sh2;rw[LQ]at it2;rw[afA]at en2;rw[aaj]at bk2;rw[aak]at cl2;refine⟨(⟨m0,r.1,r.2,mo,sh,m3,m4,m5,m6,it,[],bk,cl⟩,en,rt1,rt7,rt8,rt9,ax2),⟨Yl w0,r1,r2,Yl wo,Yl w3,Yl w4,Yl w5,Yl w6,sh1,it1,?_,bk1,cl1,by simp only[LR];omega,by simp only[LR];omega,by simp only[LR,zzbt];omega,by simp only[LR];omega,by simp only[LR];omega⟩,?_⟩
 ·intro s hs;obtain⟨q,hq,rfl⟩:=zzb.1 hs;exact en1 q hq
 rw[Ut Tryz.underlying32];simp only[zzdf,zzeo,zzdt,zzeh];rw[Zd Tryz.underlying3,Zd Tryz.underlying3,Zd Tryz.underlying3,Zd Tryz.underlying3,Zd Tryz.underlying3,it4,en4,bk4,cl4,Ut Tryz.underlying26];simp only[zzdf,zzeo,zzdt,zzeh];rw[Zd Tryz.underlying3,sh4,atH];rfl
def aac{H:Type}{x:DataW H}{n:Nat}(h:Typed Tryz.prog (n+6) 32 x)(hs:Sz 32 x):∃p:Pl,atG p/\Wk (mg Tryz.prog (n+6) 32 x) (.agg (Qa p)):=by
 have bH:Jn Tryz.prog 32=true:=by unfold Jn;rw[Tryz.underlying32]
 obtain⟨q,h1,h2⟩:=aam h hs;refine⟨LR q,h1,?_⟩;rw[aee bH,h2];exact Qdv ⟨Ps,Ps,Ps,Ps,Wk.sl _ _,Ps,Ps,Ps,Ps,Wk.sl _ _,am2 _ _,Wk.sl _ _,Wk.sl _ _,trivial⟩
def OA{H:Type}{x:DataW H}{n:Nat}(h:Typed Tryz.prog (n+1) 3 x):∃m:Int,Xz m/\mg Tryz.prog (n+1) 3 x=I m:=by
 have bH:Jn Tryz.prog 3=false:=by unfold Jn;rw[Tryz.underlying3]
 obtain⟨m,rfl,w⟩:=Xl Tryz.underlying3 h;exact⟨m,Yl w,by rw[NM bH (Zd Tryz.underlying3 _ _)]⟩
def afB:Tryz.prog.bytesOf 53=232:=by kernel_rfl
structure am4 (o:Od):Prop where
 n:Xz o.n
 fr:Xz o.fr
 en:afy o.nw
abbrev OdT:=Od×Rt
def DO(q:OdT):P2:=[I q.1.sq,I q.1.ch,I q.1.fr,I q.1.ki,I q.1.en,I q.1.n,I q.1.nw.id,I q.1.nw.it,I q.1.nw.fr,I q.1.nw.ea,I q.1.nw.la,I q.1.nw.bo,.sl q.2 (q.1.nw.al.map Qf),I q.1.cl.ki,I q.1.cl.it,I q.1.cl.fr,I q.1.cl.to,I q.1.cl.re,I q.1.cl.n,I q.1.cl.a,I q.1.cl.b,I q.1.cu.id,I q.1.cu.fr,I q.1.cu.to,I q.1.cu.pr,.str q.1.cu.tx]
def afC{H:Type}{x:DataW H}{n:Nat}(h:Typed Tryz.prog (n+2) 51 x):∃c:Cue,cE Tryz.prog (n+2) 51 x=Qm c:=by
 obtain⟨parts,rfl,aH,hp⟩:=Uu Tryz.underlying51 h;obtain⟨a0,a1,a2,a3,a4,rfl⟩:=OC aH;have t0:=hp (⟨ "ID",3,0,false, "", "",0⟩,a0) (by simp);have t1:=hp (⟨ "From",3,1,false, "", "",8⟩,a1) (by simp);have t2:=hp (⟨ "To",3,2,false, "", "",16⟩,a2) (by simp);have t3:=hp (⟨ "Priority",3,3,false, "", "",24⟩,a3) (by simp);have t4:=hp (⟨ "Text",9,4,false, "", "",32⟩,a4) (by simp);obtain⟨m0,rfl,w0⟩:=Xl Tryz.underlying3 t0;obtain⟨m1,rfl,w1⟩:=Xl Tryz.underlying3 t1;obtain⟨m2,rfl,w2⟩:=Xl Tryz.underlying3 t2;obtain⟨m3,rfl,w3⟩:=Xl Tryz.underlying3 t3;obtain⟨s,rfl,_⟩:=P3 Tryz.underlying9 t4;refine⟨⟨m0,m1,m2,m3,⟨s.toArray⟩⟩,?_⟩;rw[Ut Tryz.underlying51];simp only[zzdf,zzeo,zzdt,zzeh];rw[Zd Tryz.underlying3,Zd Tryz.underlying3,Zd Tryz.underlying3,Zd Tryz.underlying3,aec Tryz.underlying9];rfl
def afD{α:Type}{l:List α}(h:l.length=9):∃a0 a1 a2 a3 a4 a5 a6 a7 a8,l=[a0,a1,a2,a3,a4,a5,a6,a7,a8]:=by
 match l,h with
 |[a0,a1,a2,a3,a4,a5,a6,a7,a8],_=>exact⟨a0,a1,a2,a3,a4,a5,a6,a7,a8,rfl⟩
def RO{H:Type}{x:DataW H}{n:Nat}(h:Typed Tryz.prog (n+5) 53 x)(hs:Sz 53 x):∃q:OdT,am4 q.1/\cE Tryz.prog (n+5) 53 x=DO q:=by
 obtain⟨parts,rfl,aH,hp⟩:=Uu Tryz.underlying53 h;obtain⟨a0,a1,a2,a3,a4,a5,a6,a7,a8,rfl⟩:=afD aH;have hz:=hs.agg Tryz.underlying53;have t0:=hp (⟨ "Seq",3,0,false, "", "",0⟩,a0) (by simp);have t1:=hp (⟨ "Channel",3,1,false, "", "",8⟩,a1) (by simp);have t2:=hp (⟨ "Frame",3,2,false, "", "",16⟩,a2) (by simp);have t3:=hp (⟨ "Kind",3,3,false, "", "",24⟩,a3) (by simp);have t4:=hp (⟨ "Entry",3,4,false, "", "",32⟩,a4) (by simp);have t5:=hp (⟨ "N",3,5,false, "", "",40⟩,a5) (by simp);have t6:=hp (⟨ "New",47,6,false, "", "",48⟩,a6) (by simp);have t7:=hp (⟨ "Clause",49,13,false, "", "",120⟩,a7) (by simp);have t8:=hp (⟨ "Cue",51,21,false, "", "",184⟩,a8) (by simp);obtain⟨m0,rfl,w0⟩:=Xl Tryz.underlying3 t0;obtain⟨m1,rfl,w1⟩:=Xl Tryz.underlying3 t1;obtain⟨m2,rfl,w2⟩:=Xl Tryz.underlying3 t2;obtain⟨m3,rfl,w3⟩:=Xl Tryz.underlying3 t3;obtain⟨m4,rfl,w4⟩:=Xl Tryz.underlying3 t4;obtain⟨m5,rfl,w5⟩:=Xl Tryz.underlying3 t5;have s6:Sz 47 a6:=fun k hk=>hz k (by simp[DataW.weightsEach,hk]);obtain⟨⟨e,rt⟩,e1,e2⟩:=Bx t6 s6;obtain⟨c,c1,c2⟩:=yJ t7;obtain⟨u,u2⟩:=afC t8;refine⟨(⟨m0,m1,m2,m3,m4,m5,e,c,u⟩,rt),⟨Yl w5,Yl w2,e1⟩,?_⟩;rw[Ut Tryz.underlying53];simp only[zzdf,zzeo,zzdt,zzeh];rw[Zd Tryz.underlying3,Zd Tryz.underlying3,Zd Tryz.underlying3,Zd Tryz.underlying3,Zd Tryz.underlying3,Zd Tryz.underlying3,e2,c2,u2];rfl
def am5(l:List OdT)(rt:Rt):Wk (.sl rt (l.map DO)) (.sl .ro ((l.map (·.1)).map Qq)):=by
 refine Wk.trans (Wk.sl _ _) ?_;rw[zzct];refine Wk.rows l DO (Qq ∘ (·.1)) (fun _=>rfl) fun a j c' h=>?_
 match j,h with
 |0,h=>exact⟨_,rfl,by cases h;exact Ps⟩
 |1,h=>exact⟨_,rfl,by cases h;exact Ps⟩
 |2,h=>exact⟨_,rfl,by cases h;exact Ps⟩
 |3,h=>exact⟨_,rfl,by cases h;exact Ps⟩
 |4,h=>exact⟨_,rfl,by cases h;exact Ps⟩
 |5,h=>exact⟨_,rfl,by cases h;exact Ps⟩
 |6,h=>exact⟨_,rfl,by cases h;exact Ps⟩
 |7,h=>exact⟨_,rfl,by cases h;exact Ps⟩
 |8,h=>exact⟨_,rfl,by cases h;exact Ps⟩
 |9,h=>exact⟨_,rfl,by cases h;exact Ps⟩
 |10,h=>exact⟨_,rfl,by cases h;exact Ps⟩
 |11,h=>exact⟨_,rfl,by cases h;exact Ps⟩
 |12,h=>exact⟨_,rfl,by cases h;exact Wk.sl _ _⟩
 |13,h=>exact⟨_,rfl,by cases h;exact Ps⟩
 |14,h=>exact⟨_,rfl,by cases h;exact Ps⟩
 |15,h=>exact⟨_,rfl,by cases h;exact Ps⟩
 |16,h=>exact⟨_,rfl,by cases h;exact Ps⟩
 |17,h=>exact⟨_,rfl,by cases h;exact Ps⟩
 |18,h=>exact⟨_,rfl,by cases h;exact Ps⟩
 |19,h=>exact⟨_,rfl,by cases h;exact Ps⟩
 |20,h=>exact⟨_,rfl,by cases h;exact Ps⟩
 |21,h=>exact⟨_,rfl,by cases h;exact Ps⟩
 |22,h=>exact⟨_,rfl,by cases h;exact Ps⟩
 |23,h=>exact⟨_,rfl,by cases h;exact Ps⟩
 |24,h=>exact⟨_,rfl,by cases h;exact Ps⟩
 |25,h=>exact⟨_,rfl,by cases h;exact Ps⟩
 |j+26,h=>simp[Qq,Qd,Qi,Qm]at h
def LO{H:Type}{x:DataW H}{n:Nat}(h:Typed Tryz.prog (n+6) 33 x)(hs:Sz 33 x):∃l:List Od,(∀o∈l,am4 o)/\l.length<=1000000000000/\Wk (mg Tryz.prog (n+6) 33 x) (.sl .ro (l.map Qq)):=by
 have bH:Jn Tryz.prog 33=false:=by unfold Jn;rw[Tryz.underlying33]
 obtain⟨l,rt,l1,l2,_,l4⟩:=Wd DO (fun q=>am4 q.1) Tryz.underlying33 (fun y hy hz=>RO hy hz) h hs;rw[afB]at l2;have hr:reachBytes=140737488351232:=rfl;refine⟨l.map (·.1),fun p hp=>?_,by rw[zzbt];omega,by rw[NM bH l4];exact am5 l rt⟩;obtain⟨q,hq,rfl⟩:=zzb.1 hp;exact l1 q hq
