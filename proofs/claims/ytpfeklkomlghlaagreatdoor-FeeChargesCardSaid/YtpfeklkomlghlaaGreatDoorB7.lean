/- Part 7 of the proof. -/
import Derived.Test.YtpfeklkomlghlaaGreatDoorB6
import Derived.Shelf.Strings.Repeat
import Derived.Shelf.Strings.OnBuilder
import Derived.Shelf.Strings.Count
import Derived.Shelf.Strconv.ParseIntPublic10
import Derived.Shelf.Strconv.Atoi
import Derived.OpenShut
import Derived.Deep.Slices
import Derived.ProofKit
import Derived.LaidMore
set_option linter.all false
namespace Go.Sim
set_option maxRecDepth 100000
set_option maxHeartbeats 8000000
section
open Go.RowKit
def qkM(k:K)(b:Nat)(args:Cz)(H:CW):CJ:=match args with
 |[x,.d (.i .i64 i),.r ov kv offv lv tv]=>match qbb H k (.r ov kv offv lv tv)with
  |some [y]=>match x with
   |.r o k' off len _=>match H.obj o with
    |some (.sl k'' ro es)=>
     if K.eq k k'&&K.eq k k''&&decide (off+len<=es.length)&&decide (ro<=off)&&decide (0<=i)&&decide (i<=len)&&decide ((len+1)*b<=2^47) && !(Nat.beq o ov)then
      some (.r H.length k 0 (len+1) false,(H++[none]).put o none |>.put H.length (some (.sl k 0 (((es.drop off).take len).take i.toNat++y::((es.drop off).take len).drop i.toNat))))
     else none
    |_=>none
   |.d (.l _ [] true)=>if i=0&&decide (b<=2^47)then some (.r H.length k 0 1 false,(H++[none]).put H.length (some (.sl k 0 [y])))else none
   |_=>none
  |_=>none
 |_=>none
section
variable {P:CV}{N:Names}{C:Cx}{w:CU}{S:qad}{β:Pl}{B:Nat}{H:CW}{a:Act}{E:Env}{ρ:Go.Shelf.Ren}
def qxt{H:CW}{k:K}{v:PV}{ys:Cy}(n:Nat)(h:qbb H k v=some ys):qbb (H++List.replicate n none) k v=some ys:=by
 unfold qbb at h⊢;split at h
 ·exact h
 ·rename_i o k' off len t;simp only[qp1];exact h
 ·exact h
 ·cases h
def qzX{id:Nat}{v:PV}{H':CW}{u:CP}{w':CU}(hid:id=H.length)(h:qeJ C B w S β (H++List.replicate 1 none) id v H' u w') :
  ∃S' β',Ext B w S w' S'/\Swf w' S'/\HOK C B w' S' β' H'/\Later β β'/\Ac C w' S' β' v u/\H.length<=H'.length/\Kp H.length H.length β β':=by
 obtain⟨S',β',h1,h2,h3,h4,h5,h6,h7⟩:=h;subst hid;refine⟨S',β',h1,h2,h3,h4,h5,by rw[h6];simp,λo h8 h9 h10=>h7 o (by simp;omega) h9 h10⟩
def qPi{o:Nat}{k:K}{off len:Nat}{t:CO}{u:CP}(h:Ac C w S β (.r o k off len t) u):Ac C w S β (.r o k off len false) u:=by
 cases h with
 |r _ _ _ _ _ _ h0 hx=>
  refine .r _ _ _ _ _ _ h0 ?_;unfold RelRf at hx⊢;split at hx
  ·exact hx.elim
  ·trivial
  ·exact hx
  ·obtain⟨e1,cap,a,h1,h2,h3,-,h4⟩:=hx;exact⟨e1,cap,a,h1,h2,h3,λh=>(Bool.noConfusion h),h4⟩
  ·exact hx.elim
def qG0{α:Type}{L:CL α}{n:Nat}(h:L.length=n)(y:α):L.take n++y::L.drop n=L++[y]:=by rw[zzv (by omega),zzF (by omega)]
def qtY{α:Type}{a b c:CL α}{n:Nat}{xs:CL α}(hn:n=a.length)(hx:xs.length=b.length):putAt (a++b++c) n xs=a++xs++c:=by subst hn;unfold putAt;rw[zzM a b c,List.take_left,hx,<-List.drop_drop,List.drop_left,List.drop_left]
def qG5{L:Cy}{j:Nat}(hj:j<L.length)(y:DV):putAt (L.take (j+1)++L.drop j) j [y]=L.take j++y::L.drop j:=by
 have e1:L.take (j+1)=L.take j++[L[j]]:=by rw[zzw hj]
 rw[e1,qtY (b:=[L[j]]) (xs:=[y]) (by rw[zzI];omega) rfl,zzM];rfl
def qG3{L:Cy}{j:Nat}(hj:j<=L.length)(y z:DV):putAt (putAt (L.take j++List.replicate (L.length+1-j) z) j [y]) (j+1) (L.drop j)=L.take j++y::L.drop j:=by
 have e1:List.replicate (L.length+1-j) z=[z]++List.replicate (L.length-j) z:=by
  have:L.length+1-j=(L.length-j)+1:=by omega
  rw[this,List.replicate_succ];rfl
 rw[e1,<-zzM,qtY (b:=[z]) (xs:=[y]) (by rw[zzI];omega) rfl];have:=qtY (a:=L.take j++[y]) (b:=List.replicate (L.length-j) z) (c:=[]) (n:=j+1) (xs:=L.drop j) (by rw[zzp,zzI];simp;omega) (by rw[zzJ,List.length_replicate]);rw[List.append_nil,List.append_nil]at this;rw[this,zzM];rfl
def qGZ{G:Nat->CK (DV×K)}{f:Nat}{k:K}{e:CQ}(hL:Go.Proofs.InsL P (C.μ f) ρ k.size)(he:ρ.t 9=e)(hk:kq P e=some k){z:DV}(hz:zq P e=some z)(hb0:P.bytesOf e≠0)(hk0:0<k.size){args:Cz}{H H':CW}{r:PV}(h:qkM k (P.bytesOf e) args H=some (r,H')) :
  qnZ P C N G f args H r H':=by
 intro B w S β us hB hS hG hH hl hr;have ht:=hL.t24;rw[he]at ht;have hp:β H.length=.pend:=hH.out _ (zzt _);have hg:=qmZ hH 1;have hlt:H.length<(H++List.replicate 1 none).length:=by simp
 unfold qkM at h;split at h;case h_2=>cases h
 rename_i x i ov kv offv lv tv;split at h;case h_2=>cases h
 rename_i y hy;match us,hl with
 |[ux,ui,uv],_=>
 have hxr:=hr 0 (by simp) (by simp);have hir:=hr 1 (by simp) (by simp);have hvr:=hr 2 (by simp) (by simp);simp only[List.getElem_cons_zero,zzG]at hxr hir hvr;have hui:ui=.int .i64 i:=qm4 hir;subst hui;obtain⟨vb,basev,hbv,capv,av,rfl,hav,hcv1⟩:∃vb basev,β ov=.at vb basev k/\∃capv av,uv=.slice (some av) 1 capv/\av=⟨vb,basev+offv*k.size,none⟩/\1<=capv:=by
  have hl1:lv=1:=by
   have:=hy;unfold qbb at this;simp only at this;split at this
   ·split at this
    ·rename_i hc;simp only[zzf,zzq]at hc;simp only[zzb]at this;have h2:=congrArg List.length this;simp only[zzI,zzJ,zzn,List.length_nil]at h2;omega
    ·cases this
   ·cases this
  subst hl1;cases hvr with
  |r _ _ _ _ _ _ hfx hv=>
  have hkk:kv=k:=by
   have:=hy;unfold qbb at this;simp only at this;split at this
   ·split at this
    ·rename_i hc;simp only[zzf,zzq]at hc;exact (K.eq_spec hc.1.1).symm
    ·cases this
   ·cases this
  subst hkk;unfold RelRf at hv;split at hv
  ·exact hv.elim
  ·rename_i hb;unfold qbb at hy;simp only[hH.dead ov hb]at hy;cases hy
  ·obtain⟨-,h1,-⟩:=hv;cases h1
  ·rename_i blk base k3 hb;obtain⟨e1,cap,a,rfl,e2,e3,-⟩:=hv;subst e1;exact⟨blk,base,hb,cap,a,rfl,e2 (by omega),e3⟩
  ·exact hv.elim
 subst hav;have hshape:∀{b0:Nat} {cs:Array CP} {e0:CQ},w.heap[b0]? = some (.cells cs e0 (0,0))->w.shape? b0=some (e0,cs.size):=λh=>by unfold World.shape?;rw[h]
 have hfroz:∀{b0:Nat} {cs:Array CP} {e0:CQ} (q:Nat),w.heap[b0]? = some (.cells cs e0 (0,0))->w.frozen? ⟨b0,q,none⟩=false:=λq h=>by unfold World.frozen?;simp[h]
 split at h
 ·
  rename_i o k' off len tt0 _;replace hxr:=qPi hxr;split at h;case h_2=>cases h
  rename_i k'' ro es ho;split at h;case isFalse=>cases h
  rename_i hc;simp only[zzf,zzq,Bool.not_eq_true']at hc;obtain⟨⟨⟨⟨⟨⟨⟨hk1,hk2⟩,hle⟩,hro⟩,hi0⟩,hil⟩,hbig⟩,hne⟩:=hc;have:=K.eq_spec hk1;subst this;have:=K.eq_spec hk2;subst this;have hoo:o≠ov:=λhq=>by subst hq;rw[Nat.beq_refl]at hne;cases hne
  simp only[zzb,zzc]at h;obtain⟨rfl,rfl⟩:=h;obtain⟨j,rfl⟩:=Int.eq_ofNat_of_zero_le hi0;have hjl:j<=len:=by omega
  have holt:=qic ho;have ho1:Heap.obj (H++List.replicate 1 none) o=some (.sl k ro es):=by rw[qp1];exact ho
  have hov1:Heap.obj (H++List.replicate 1 none) ov=H.obj ov:=qp1 _ _ _;have hpl:((es.drop off).take len).length=len:=by simp;omega
  have hnp:β o≠.pend:=λhq=>by
   cases hxr with
   |r _ _ _ _ _ _ _ hx=>unfold RelRf at hx;rw[hq]at hx;exact hx
  have hno:H.length≠o:=by omega
  have hnv:H.length≠ov:=λhq=>by rw[<-hq,hp]at hbv;cases hbv
  rw[Int.toNat_natCast];by_cases hjn:j=len
  ·
   subst hjn;obtain⟨ur,w',e1,e2⟩:=qrv (P:=P) (ts := #[ρ.t 24,ρ.t 24]) (id:=H.length) hg hS hB hp hlt rfl rfl ht hk (.inl ⟨_,ht⟩) hz hb0 (ρ.t 24) (x:=.r o k off j false) (y:=.r ov kv offv lv tv) hxr hvr (v:=.r H.length k 0 (j+1) false) (H':=((H++[none]).put o none).put H.length (some (.sl k (ro-off) ((es.drop off).take j++[y])))) (by
    have hy1:=qxt 1 hy;unfold qcb;rw[hy1];simp only[ho1,List.length_singleton];have:(K.eq k k&&K.eq k k&&decide (off+j<=es.length)&&decide ((j+1)*P.bytesOf e<=2^47))=true:=by simp only[zzf,zzq];exact⟨⟨⟨hk1,hk1⟩,hle⟩,hbig⟩
    rw[if_pos this];have hro':ro<=off+j:=by omega
    simp only[zzg,if_false,hro',if_true];rfl)
   obtain⟨bs,cp,rfl,hcp⟩:∃bs cp,ux=.slice bs j cp/\j<=cp:=by
    cases hxr with
    |r _ _ _ _ _ _ _ hx=>
    unfold RelRf at hx;split at hx
    ·exact hx.elim
    ·rename_i hb;rw[hH.dead o hb]at ho;cases ho
    ·obtain⟨-,rfl,a,rfl⟩:=hx;exact⟨_,_,rfl,zzt _⟩
    ·obtain⟨-,cap,a,rfl,-,h3,-⟩:=hx;exact⟨_,_,rfl,h3⟩
    ·exact hx.elim
   refine (Go.Proofs.ins_end hL bs j cp capv _ ur w w' hcp (λty=>e1)).mono ?_;rintro e3 w3 ⟨rfl,rfl⟩;rw[qG0 hpl];have e5:ro-off=0:=by omega
   rw[e5]at e2;obtain⟨S',β',g1,g2,g3,g4,g5,g6,g7⟩:=qzX rfl e2;exact⟨ur,S',β',rfl,g1,g2,g3,g4,g5,g6,g7⟩
  ·
   have hjlt:j<len:=by omega
   obtain⟨blk,base,hbo,cap,rfl,hcap,e',hsh⟩:∃blk base,β o=.at blk base k/\∃cap,ux=.slice (some ⟨blk,base+off*k.size,none⟩) len cap/\len<=cap/\∃e' ,∃n,w.shape? blk=some (e',n)/\base+(off+cap)*k.size<=n:=by
    cases hxr with
    |r _ _ _ _ _ _ _ hx=>
    unfold RelRf at hx;split at hx
    ·exact hx.elim
    ·rename_i hb;rw[hH.dead o hb]at ho;cases ho
    ·obtain⟨-,rfl,-⟩:=hx;omega
    ·rename_i blk base k3 hb;obtain⟨e1,cap,a,rfl,e2,e3,-,e',n,e5,e6⟩:=hx;subst e1;rw[e2 (by omega)];exact⟨blk,base,hb,cap,rfl,e3,e',n,e5,e6⟩
    ·exact hx.elim
   obtain⟨n,hsh,hcapn⟩:=hsh;obtain⟨hBb,x',cells,e0,ho',hs,hw,hc⟩:=hH.live o blk base k hbo;rw[ho]at ho';cases ho';obtain⟨hbs,c,hf,hrr,hnS⟩:=hc;have hcs:n=cells.size:=by rw[hshape hw]at hsh;cases hsh;rfl
   subst hcs;obtain⟨hBv,xv,cellsv,ev,hov',hsv,hwv,-⟩:=hH.live ov vb basev k hbv;have hvb:vb≠blk:=λhq=>hoo (hH.inj o ov blk base k basev k hbo (hq▸hbv));have hcell:∀t,t<len->∀m,m<k.size->cells[base+off*k.size+t*k.size+m]? = some (c (off+t) m)/\flat (c (off+t) m):=by
    intro t ht m hm;have:=hf (off+t) (by omega) m hm;rw[zzl]at this;have e1:base+off*k.size+t*k.size+m=base+(off*k.size+t*k.size)+m:=by omega
    rw[e1];exact this
   have hrel:∀t (h:t<((es.drop off).take len).length),Al w S ((es.drop off).take len)[t] (mkV k (c (off+t))):=by intro t h;rw[hpl]at h;have:=hrr (off+t) (by omega);simpa[List.getElem_drop,List.getElem_take]using this
   generalize hL0:(es.drop off).take len=L at hpl hrel⊢;have hro3:ro*k.size<=off*k.size:=zzh _ hro;have hend:(off+cap)*k.size=off*k.size+cap*k.size:=zzl _ _ _;have hlc:len*k.size<=cap*k.size:=zzh _ hcap;have hjs:(j+1)*k.size=j*k.size+k.size:=by rw[zzl,Nat.one_mul]
   have hls:(len-j)*k.size+j*k.size=len*k.size:=by rw[<-zzl];congr 1;omega
   have hcap47:∀q,(q+1)*P.bytesOf e<=2^47->q+1<=140737488355328:=λq h=>by have:(q+1)*1<=(q+1)*P.bytesOf e:=Nat.mul_le_mul_left _ (by omega);omega
   have hA1l:((cells.toList.drop (base+off*k.size+j*k.size)).take ((len-j)*k.size)).length=(len-j)*k.size:=by rw[zzI,zzJ,Array.length_toList];omega
   have hA1g:∀q,q<(len-j)*k.size->((cells.toList.drop (base+off*k.size+j*k.size)).take ((len-j)*k.size))[q]? = cells[base+off*k.size+j*k.size+q]? :=by intro q hq;rw[List.getElem?_take,if_pos hq,List.getElem?_drop,Array.getElem?_toList]
   have hcellq:∀q,q<(len-j)*k.size->∃v,cells[base+off*k.size+j*k.size+q]? = some v/\v.oneCell'=true:=by
    intro q hq;have h1:=hcell (j+q/k.size) (by
     have:q/k.size<len-j:=(Nat.div_lt_iff_lt_mul hk0).2 hq;omega) (q%k.size) (Nat.mod_lt _ hk0)
    have e1:base+off*k.size+(j+q/k.size)*k.size+q%k.size=base+off*k.size+j*k.size+q:=by
     have:q/k.size*k.size+q%k.size=q:=by rw[Nat.mul_comm];exact Nat.div_add_mod q k.size
     rw[zzl];omega
    rw[e1]at h1;exact⟨_,h1.1,h1.2⟩
   generalize hA1:(cells.toList.drop (base+off*k.size+j*k.size)).take ((len-j)*k.size)=A1 at hA1l hA1g;have hA1f:∀v∈A1,v.oneCell'=true:=by intro v hv;obtain⟨q,hq,rfl⟩:=List.mem_iff_getElem.1 hv;rw[hA1l]at hq;obtain⟨v,h1,h2⟩:=hcellq q hq;have:=hA1g q hq;rw[h1,zze (by omega),zzb]at this;rw[this];exact h2
   have hread:∀(W:CU),(∀q,W.cell? ⟨blk,q,none⟩=w.cell? ⟨blk,q,none⟩)->∀ln cp,(Builtin.firstCells k.size (len-j) (.slice (some ⟨blk,base+off*k.size+j*k.size,none⟩) ln cp)).run P W=.ok A1.toArray W:=by
    intro W hW ln cp;refine run_firstCells_some W k.size (len-j) _ ln cp A1 hA1l ?_;intro q v hq;have hql:q<(len-j)*k.size:=by rw[<-hA1l];exact (zzk.1 hq).1
    rw[qfk,hW];rw[hA1g q hql]at hq;simpa[World.cell?,hw]using hq
   by_cases hroom:len+1<=cap
   ·
    have hpos:base+off*k.size+(j+1)*k.size+A1.length<=cells.size:=by have h1:(len+1)*k.size<=cap*k.size:=zzh _ hroom;rw[zzl,Nat.one_mul]at h1;rw[hA1l];omega
    have hsz:(putAt cells.toList (base+off*k.size+(j+1)*k.size) A1).toArray.size=cells.size:=by have:=qdw (l:=cells.toList) (c:=base+off*k.size+(j+1)*k.size) (xs:=A1) (by simpa using hpos);simpa using this
    have hget:∀q,(putAt cells.toList (base+off*k.size+(j+1)*k.size) A1).toArray[q]? = if base+off*k.size+(j+1)*k.size<=q/\q<base+off*k.size+(j+1)*k.size+(len-j)*k.size then A1[q-(base+off*k.size+(j+1)*k.size)]? else cells[q]? :=by intro q;have:=qeE (l:=cells.toList) (c:=base+off*k.size+(j+1)*k.size) (xs:=A1) (by simpa using hpos) q;rw[List.getElem?_toArray,this,hA1l];simp
    have hkeep:∀q,S blk q->(putAt cells.toList (base+off*k.size+(j+1)*k.size) A1).toArray[q]? = cells[q]? :=by intro q hq;rw[hget,if_neg];intro hc;exact hnS q (by omega) hq
    have hwd:w.drew.heap[blk]? = some (.cells cells e0 (0,0)):=hw;have hst:(storeCells ⟨blk,base+off*k.size+(j+1)*k.size,none⟩ A1).run P w.drew=.ok () (w.drew.setRow blk (putAt cells.toList (base+off*k.size+(j+1)*k.size) A1).toArray):=by have:=run_storeCells_at P blk (base+off*k.size+(j+1)*k.size) e0 A1 0 cells w.drew hwd (by simpa using hpos) hA1f;simpa[putAt]using this
    have hcp1:∀ty,(Builtin.copy_ #[ρ.t 24,ρ.t 24] ty #[.slice (some ⟨blk,base+off*k.size+(j+1)*k.size,none⟩) (len-j) (cap-(j+1)),.slice (some ⟨blk,base+off*k.size+j*k.size,none⟩) (len+1-j) (cap-j)]).run P w.drew=.ok (goInt (len-j:Nat)) (w.drew.setRow blk (putAt cells.toList (base+off*k.size+(j+1)*k.size) A1).toArray):=λty=>
     qoL (w:=w.drew) (m:=len+1-j) rfl ht hk (by simp[Builtin.lenOf]) (by omega) (hread w.drew (λ_=>rfl) _ _) (by simpa using hst) ty
    have hext0:Ext B w S w.drew S:=qb4;have hmv:=qyx (id:=H.length) (base':=base+off*k.size) hg.drew hbo hp hlt hno hwd hsz hkeep (x:=.sl k 0 (L.take (j+1)++L.drop j)) (by
     intro β' _;have hLl:(L.take (j+1)++L.drop j).length=len+1:=by rw[zzp,zzI,zzJ];omega
     have hext1:=qit (S:=S) (B:=B) (cells':=(putAt cells.toList (base+off*k.size+(j+1)*k.size) A1).toArray) hBb hwd hsz hkeep;refine⟨?_,(λt m=>if t<=j then c (off+t) m else c (off+(t-1)) m),?_,?_,?_⟩
     ·have h1:(len+1)*k.size<=cap*k.size:=zzh _ hroom;rw[hsz,hLl];omega
     ·intro t ht' m hm;rw[hLl]at ht';rw[hget];by_cases htj:t<=j
      ·simp only[htj,if_true];have h1:(t+1)*k.size<=(j+1)*k.size:=zzh _ (by omega);rw[zzl,Nat.one_mul]at h1;rw[if_neg (by omega)];exact hcell t (by omega) m hm
      ·simp only[htj,if_false];have h1:t*k.size=(j+1)*k.size+(t-1-j)*k.size:=by rw[<-zzl];congr 1;omega
       have h2:(t-1-j+1)*k.size<=(len-j)*k.size:=zzh _ (by omega);rw[zzl,Nat.one_mul]at h2;rw[if_pos (by omega)];have e1:base+off*k.size+t*k.size+m-(base+off*k.size+(j+1)*k.size)=(t-1-j)*k.size+m:=by omega
       rw[e1,hA1g _ (by omega)];have h3:=hcell (t-1) (by omega) m hm;have h4:(t-1)*k.size=j*k.size+(t-1-j)*k.size:=by rw[<-zzl];congr 1;omega
       have e2:base+off*k.size+(t-1)*k.size+m=base+off*k.size+j*k.size+((t-1-j)*k.size+m):=by omega
       rw[e2]at h3;exact h3
     ·intro t ht';have htl:=ht';rw[hLl]at htl;by_cases htj:t<=j
      ·simp only[htj,if_true];have e1:(L.take (j+1)++L.drop j)[t]=L[t]'(by omega):=by rw[List.getElem_append_left (by rw[zzI];omega),List.getElem_take]
       rw[e1];exact ((hrel t (by omega)).ext hext0).ext hext1
      ·simp only[htj,if_false];have e1:(L.take (j+1)++L.drop j)[t]=L[t-1]'(by omega):=by
        have e2:(L.take (j+1)).length=j+1:=by rw[zzI];omega
        rw[List.getElem_append_right (by omega),List.getElem_drop];simp only[e2];congr 1;omega
       rw[e1];exact ((hrel (t-1) (by omega)).ext hext0).ext hext1
     ·intro q hq;exact hnS q (by omega))
    obtain⟨hH1,hlat⟩:=hmv;have hext1:=qit (S:=S) (B:=B) (cells':=(putAt cells.toList (base+off*k.size+(j+1)*k.size) A1).toArray) hBb hwd hsz hkeep;have hext:=hext0.trans hext1;have hS1:Swf (w.drew.setRow blk (putAt cells.toList (base+off*k.size+(j+1)*k.size) A1).toArray) S:=hS.ext hext;generalize hW1:w.drew.setRow blk (putAt cells.toList (base+off*k.size+(j+1)*k.size) A1).toArray=W1 at hcp1 hH1 hext hS1;generalize hβ1:upd (upd β o BO.dead) H.length (BO.at blk (base+off*k.size) (Obj.sl k 0 (L.take (j+1)++L.drop j)).shape)=β1 at hH1 hlat;have hβid:β1 H.length=.at blk (base+off*k.size) k:=by rw[<-hβ1,qa5];rfl
    have hsh1:W1.shape? blk=some (e',cells.size):=hext.shape _ _ _ hsh;have hx1:Ac C W1 S β1 (.r H.length k j (len+1-j) false) (.slice (some ⟨blk,base+off*k.size+j*k.size,none⟩) (len+1-j) (cap-j)):=by
     refine .r _ _ _ _ _ _ rfl ?_;unfold RelRf;rw[hβid];refine⟨rfl,cap-j,_,rfl,λ_=>rfl,by omega,(λh=>by cases h),e',cells.size,hsh1,?_⟩;have:j+(cap-j)=cap:=by omega
     rw[this];omega
    have hv1:=hvr.ext hext hlat;have hobj1:Heap.obj (((H++List.replicate 1 none).put o none).put H.length (some (.sl k 0 (L.take (j+1)++L.drop j)))) ov=H.obj ov:=by rw[qa7 (λh=>hnv h),qa7 hoo,hov1]
    have hy1:qbb (((H++List.replicate 1 none).put o none).put H.length (some (.sl k 0 (L.take (j+1)++L.drop j)))) k (.r ov kv offv lv tv)=some [y]:=by unfold qbb at hy⊢;simp only[hobj1];exact hy
    have hob1:Heap.obj (((H++List.replicate 1 none).put o none).put H.length (some (.sl k 0 (L.take (j+1)++L.drop j)))) H.length=some (.sl k 0 (L.take (j+1)++L.drop j)):=qdv (by rw[qa2];exact hlt);have hLl:(L.take (j+1)++L.drop j).length=len+1:=by rw[zzp,zzI,zzJ];omega
    obtain⟨W2,c1,c2,c3,c4⟩:=qrV (P:=P) (ts := #[ρ.t 24,ρ.t 24]) hH1 hS1 rfl ht hk hx1 hob1 (by rw[hLl];omega) (zzK _) hv1 hy1 (ρ.t 24);have e1:min [y].length (len+1-j)=1:=by simp;omega
    rw[e1]at c1 c4;have e2:[y].take 1=[y]:=rfl;rw[e2,qG5 (by omega)]at c4;have hc47:=hcap47 len hbig;refine (Go.Proofs.ins_shift hL blk (base+off*k.size) len cap j vb (basev+offv*k.size) capv w W1 W2 hjlt hroom (by omega) hvb ev e0 cellsv.size cells.size (hshape hwv) (hshape hw) (by omega) (hfroz _ hwv) (hfroz _ hwv) hcp1 (λty=>c1)).mono ?_;rintro e3 w3 ⟨rfl,rfl⟩;refine⟨_,S,β1,rfl,hext.trans c2,c3,?_,hlat,?_,by simp[qa2],?_⟩
    ·have e5:((H++List.replicate 1 none).put o none).put H.length (some (Obj.sl k 0 (L.take (j+1)++L.drop j)))=((H++[none]).put o none).put H.length (some (Obj.sl k 0 (L.take (j+1)++L.drop j))):=rfl;have e6:∀(X:CW) (p:Nat) (a b:CK Obj),(X.put p a).put p b=X.put p b:=by intro X p a b;simp[Heap.put]
     rw[e6]at c4;exact c4
    ·refine .r _ _ _ _ _ _ rfl ?_;unfold RelRf;rw[hβid];refine⟨rfl,cap,_,rfl,λ_=>by simp,hroom,(λh=>by cases h),e',cells.size,c2.shape _ _ _ hsh1,?_⟩;rw[Nat.zero_add];omega
    ·intro p h1 h2 h3;rw[<-hβ1,qaC (by omega),qaC (λhq=>by subst hq;exact hnp h3)];exact h3
   ·
    have hcl:cap=len:=by omega
    obtain⟨kz,zv,hkz,hzv,hfz,hrz⟩:=qhC hz;rw[hk]at hkz;cases hkz;have hzs:zv.cells.size=k.size:=(qnY (C:=C) (w:=w) (S:=S) (β:=β) hfz hrz).2;obtain⟨i0,hi0,hz0⟩:=zza.1 hzv;have hbi:P.bytesOf e=i0.bytes:=by simp[Program.bytesOf,hi0]
    have hki:i0.size=k.size:=by rw[<-qjj hk];simp[Program.cellsOf,hi0]
    have hxj:Ac C w S β (.r o k off j false) (.slice (some ⟨blk,base+off*k.size,none⟩) j cap):=by refine .r _ _ _ _ _ _ rfl ?_;unfold RelRf;rw[hbo];exact⟨rfl,cap,_,rfl,λ_=>rfl,by omega,(λh=>by cases h),e',cells.size,hsh,hcapn⟩
    obtain⟨A,hrA⟩:=qmO (P:=P) hH (k:=k) (ys:=L.take j) hxj (by
     have e1:L.take j=(es.drop off).take j:=by rw[<-hL0,List.take_take,Nat.min_eq_left hjl]
     rw[e1];have e2:(K.eq k k&&K.eq k k&&decide (off+j<=es.length))=true:=by simp only[zzf,zzq];exact⟨⟨hk1,hk1⟩,by omega⟩
     simp only[qbb,ho,e2,if_true])
    have hLj:(L.take j).length=j:=by rw[zzI];omega
    have hold:=hrA.drew;rw[hLj]at hold;have hAl:A.length=j*k.size:=by have:=hrA.size;rw[hLj]at this;exact this
    have hjk:j+(len+1-j)=len+1:=by omega
    have hfit:=growslice_fits (need:=len+1) (old:=cap) (bytes:=i0.bytes) (by omega) (by rw[<-hbi];exact zzL hbig (by decide));have hrz1:∀ty,(Builtin.append_ #[ρ.t 24,ρ.t 3] ty #[.slice (some ⟨blk,base+off*k.size,none⟩) j cap,.int .i64 ((len:Int)+1-(j:Int))]).run P w =
      .ok (.slice (some ⟨w.heap.size,0,none⟩) (len+1) (grownCap w (len+1) cap e)) (w.drew.alloc (.cells (A.toArray++Builtin.zeroCells zv.cells (len+1-j)++Builtin.zeroCells zv.cells (grownCap w (len+1) cap e-(len+1))) e)):=by
     intro ty;have hkk:(len:Int)+1-(j:Int)=((len+1-j:Nat):Int):=by omega
     have h48:(len+1-j)*i0.bytes<=281474976710656:=by have:(len+1-j)*i0.bytes<=(len+1)*i0.bytes:=zzh _ (by omega);rw[hbi]at hbig;omega
     have h:=Lib.run_append_grow_zeros w (ρ.t 24) (ρ.t 3) ty e i0 zv .i64 .i64 ht hL.t3 hi0 hz0 (some ⟨blk,base+off*k.size,none⟩) j cap A (by rw[hki];exact hold) (len+1-j) (by omega) (by omega) (by omega) (by have:=hcap47 len hbig;omega) h48 (by rw[hjk];exact hfit);rw[hjk]at h;rw[hkk];exact h
    have hGn:len+1<=grownCap w (len+1) cap e:=grownCap_ge w _ _ _;generalize hG0:grownCap w (len+1) cap e=GC at hrz1 hGn;have hzr:=qvG (w:=w) (S:=S) (n:=len+1-j) hfz hrz zv.cells (λ_=>rfl);have hzc:((Array.range ((len+1-j)*k.size)).map (zv.cells[· % zv.cells.size]!)).toList=(Builtin.zeroCells zv.cells (len+1-j)).toList:=by unfold Builtin.zeroCells;rw[hzs]
    rw[hzc]at hzr;have hzl:(Builtin.zeroCells zv.cells (len+1-j)).toList.length=(List.replicate (len+1-j) z).length*k.size:=by rw[Array.length_toList,qvF,hzs,List.length_replicate]
    have hrow:=((hrA.rel.append hrA.size (hzr)).ext (qb4 (B:=B))).pad (A':=(Builtin.zeroCells zv.cells (GC-(len+1))).toList);have hSd:Swf w.drew S:=hS.ext (qb4 (B:=B));obtain⟨a1,a2,a3,a4⟩:=qpW hg.drew hSd hB hp hlt hrow e 0 (len:=len+1) (cap:=GC) (tt:=false) (by
     have h1:=qvF zv.cells (GC-(len+1));rw[hzs]at h1;simp only[zzp,h1,hAl,hzl,List.length_replicate,Array.length_toList];rw[<-zzl,<-zzl];exact zzh _ (by omega)) hGn (λh=>by cases h)
    have e1:(A++(Builtin.zeroCells zv.cells (len+1-j)).toList++(Builtin.zeroCells zv.cells (GC-(len+1))).toList).toArray=A.toArray++Builtin.zeroCells zv.cells (len+1-j)++Builtin.zeroCells zv.cells (GC-(len+1)):=by apply Array.ext';simp
    rw[e1]at a1 a2 a4;have hext:Ext B w S _ S:=(qb4 (B:=B)).trans a1;have hS1:=hSd.ext a1;have hM:w.drew.heap.size=w.heap.size:=rfl;rw[hM]at a2 a3 a4;generalize hW1:w.drew.alloc (.cells (A.toArray++Builtin.zeroCells zv.cells (len+1-j)++Builtin.zeroCells zv.cells (GC-(len+1))) e)=W1 at hrz1 a1 a2 a4 hext hS1;generalize hβ1:upd β H.length (BO.at w.heap.size 0 k)=β1 at a2 a3 a4;have hβid:β1 H.length=.at w.heap.size 0 k:=by rw[<-hβ1,qa5]
    have hβo:β1 o=.at blk base k:=by rw[<-hβ1,qaC (λh=>hno h.symm)];exact hbo
    obtain⟨ee,nn,hshM,hshN⟩:∃ee nn,W1.shape? w.heap.size=some (ee,nn)/\GC*k.size<=nn:=by
     cases a4 with
     |r _ _ _ _ _ _ _ hx=>
     unfold RelRf at hx;rw[hβid]at hx;obtain⟨-,cap1,a,h1,-,-,-,e5,n5,h5,h6⟩:=hx;cases h1;refine⟨e5,n5,h5,?_⟩;simpa using h6
    generalize hes1:L.take j++List.replicate (len+1-j) z=es1 at a2;have hel:es1.length=len+1:=by rw[<-hes1,zzp,hLj,List.length_replicate];omega
    have hob1:Heap.obj ((H++List.replicate 1 none).put H.length (some (.sl k 0 es1))) H.length=some (.sl k 0 es1):=qdv hlt;have hoo1:∀q,q≠H.length->Heap.obj ((H++List.replicate 1 none).put H.length (some (.sl k 0 es1))) q=H.obj q:=λq hq=>by rw[qa7 (λh=>hq h.symm),qp1]
    have hv1:=hvr.ext hext a3;have hy1:qbb ((H++List.replicate 1 none).put H.length (some (.sl k 0 es1))) k (.r ov kv offv lv tv)=some [y]:=by unfold qbb at hy⊢;simp only[hoo1 ov (λh=>hnv h.symm)];exact hy
    have hgk:∀q,q<=GC->q*k.size+(GC-q)*k.size=GC*k.size:=λq hq=>by rw[<-zzl];congr 1;omega
    have hx1:Ac C W1 S β1 (.r H.length k j (len+1-j) false) (.slice (some ⟨w.heap.size,j*k.size,none⟩) (len+1-j) (GC-j)):=by refine .r _ _ _ _ _ _ rfl ?_;unfold RelRf;rw[hβid];refine⟨rfl,GC-j,_,rfl,λ_=>by rw[Nat.zero_add],by omega,(λh=>by cases h),ee,nn,hshM,?_⟩;rw[zzl,Nat.zero_add,hgk j (by omega)];exact hshN
    obtain⟨W2,c1,c2,c3,c4⟩:=qrV (P:=P) (ts := #[ρ.t 24,ρ.t 24]) a2 hS1 rfl ht hk hx1 hob1 (by rw[hel];omega) (zzK _) hv1 hy1 (ρ.t 24);have e2:min [y].length (len+1-j)=1:=by simp;omega
    rw[e2]at c1 c4;have e3:[y].take 1=[y]:=rfl;rw[e3]at c4;have hpp:∀(X:CW) (p:Nat) (a b:CK Obj),(X.put p a).put p b=X.put p b:=by intro X p a b;simp[Heap.put]
    rw[hpp]at c4;have hel2:(putAt es1 j [y]).length=len+1:=by rw[qdw (by rw[hel];simp;omega),hel]
    have hext2:Ext B w S W2.drew S:=(hext.trans c2).trans qb4;have hext12:Ext B W1 S W2.drew S:=c2.trans qb4;have hx2:Ac C W2.drew S β1 (.r H.length k (j+1) (len-j) false) (.slice (some ⟨w.heap.size,(j+1)*k.size,none⟩) (len-j) (GC-(j+1))):=by refine .r _ _ _ _ _ _ rfl ?_;unfold RelRf;rw[hβid];refine⟨rfl,GC-(j+1),_,rfl,λ_=>by rw[Nat.zero_add],by omega,(λh=>by cases h),ee,nn,hext12.shape _ _ _ hshM,?_⟩;rw[zzl,Nat.zero_add,hgk (j+1) (by omega)];exact hshN
    have hs2:Ac C W2.drew S β1 (.r o k (off+j) (len-j) false) (.slice (some ⟨blk,base+off*k.size+j*k.size,none⟩) (len-j) (cap-j)):=by
     refine .r _ _ _ _ _ _ rfl ?_;unfold RelRf;rw[hβo];refine⟨rfl,cap-j,_,rfl,λ_=>by rw[zzl,Nat.add_assoc],by omega,(λh=>by cases h),e',cells.size,hext2.shape _ _ _ hsh,?_⟩;have:off+j+(cap-j)=off+cap:=by omega
     rw[this];exact hcapn
    have hob2:Heap.obj ((H++List.replicate 1 none).put H.length (some (.sl k 0 (putAt es1 j [y])))) H.length=some (.sl k 0 (putAt es1 j [y])):=qdv hlt;have hy2:qbb ((H++List.replicate 1 none).put H.length (some (.sl k 0 (putAt es1 j [y])))) k (.r o k (off+j) (len-j) false)=some (L.drop j):=by
     have h1:Heap.obj ((H++List.replicate 1 none).put H.length (some (.sl k 0 (putAt es1 j [y])))) o=some (.sl k ro es):=by rw[qa7 hno,ho1]
     have h2:(K.eq k k&&K.eq k k&&decide (off+j+(len-j)<=es.length))=true:=by simp only[zzf,zzq];exact⟨⟨hk1,hk1⟩,by omega⟩
     simp only[qbb,h1,h2,if_true,<-hL0];rw[List.drop_take,List.drop_drop]
    obtain⟨W3,d1,d2,d3,d4⟩:=qrV (P:=P) (ts := #[ρ.t 24,ρ.t 24]) c4.drew (c3.ext (qb4 (B:=B))) rfl ht hk hx2 hob2 (by rw[hel2];omega) (zzK _) hs2 hy2 (ρ.t 24);have hdl:(L.drop j).length=len-j:=by rw[zzJ];omega
    have e4:min (L.drop j).length (len-j)=len-j:=by omega
    rw[e4]at d1 d4;have e5:(L.drop j).take (len-j)=L.drop j:=zzv (by omega);rw[e5,hpp,<-hes1]at d4;have e6:len+1-j=L.length+1-j:=by rw[hpl]
    rw[e6,qG3 (by omega)]at d4;have hc47:=hcap47 len hbig;refine (Go.Proofs.ins_grow hL blk (base+off*k.size) len cap j capv w.heap.size GC ⟨vb,basev+offv*k.size,none⟩ w W1 W2 W3 hjlt hcap (by omega) (by omega) hGn hrz1 (λty=>c1) (λty=>d1)).mono ?_;rintro e7 w3 ⟨rfl,rfl⟩;have holt2:o<((H++List.replicate 1 none).put H.length (some (.sl k 0 (L.take j++y::L.drop j)))).length:=by rw[qa2,zzp];omega
    obtain⟨k1,k2⟩:=qsF d4 o holt2;have hlat2:=a3.trans (k2 (by rw[hβo];simp));refine⟨_,S,upd β1 o .dead,rfl,(hext2.trans d2),d3,?_,hlat2,?_,by simp[qa2],?_⟩
    ·have e8:((H++List.replicate 1 none).put H.length (some (Obj.sl k 0 (L.take j++y::L.drop j)))).put o none=((H++[none]).put o none).put H.length (some (Obj.sl k 0 (L.take j++y::L.drop j))):=by show List.set (List.set (H++[none]) _ _) _ _=List.set (List.set (H++[none]) _ _) _ _;exact (List.set_comm _ _ hno).symm▸rfl
     rw[<-e8];exact k1
    ·refine .r _ _ _ _ _ _ rfl ?_;unfold RelRf;rw[qaC hno,hβid];refine⟨rfl,GC,_,rfl,λ_=>by simp,hGn,(λh=>by cases h),ee,nn,d2.shape _ _ _ (hext12.shape _ _ _ hshM),?_⟩;simpa using hshN
    ·intro p h1 h2 h3;rw[qaC (λhq=>by subst hq;exact hnp h3),<-hβ1,qaC (by omega)];exact h3
 ·
  split at h;case isFalse=>cases h
  rename_i hc;simp only[zzf,zzq]at hc;obtain⟨rfl,hb⟩:=hc;simp only[zzb,zzc]at h;obtain⟨rfl,rfl⟩:=h;rename_i k0 _;obtain⟨a,rfl⟩:∃a,ux=.slice a 0 0:=by
   cases hxr with
   |d _ _ hx=>
   cases hx with
   |l _ _ _ a cap blk off c c1 c2 c3 c4 c5=>have:=c2 rfl;simp at this;subst this;exact⟨a,rfl⟩
  obtain⟨ur,w',e1,e2⟩:=qrv (P:=P) (ts := #[ρ.t 24,ρ.t 24]) (id:=H.length) hg hS hB hp hlt rfl rfl ht hk (.inl ⟨_,ht⟩) hz hb0 (ρ.t 24) (y:=.r ov kv offv lv tv) hxr hvr (v:=.r H.length k 0 1 false) (H':=(H++[none]).put H.length (some (.sl k 0 [y]))) (by
   have hy1:=qxt 1 hy;unfold qcb;rw[hy1];have:(([]:Cy).length+[y].length)*P.bytesOf e<=2^47:=by simpa using hb
   simp only[if_true,this];rfl)
  refine (Go.Proofs.ins_end hL a 0 0 capv _ ur w w' (zzt _) (λty=>e1)).mono ?_;rintro e3 w3 ⟨rfl,rfl⟩;obtain⟨S',β',g1,g2,g3,g4,g5,g6,g7⟩:=qzX rfl e2;exact⟨ur,S',β',rfl,g1,g2,g3,g4,g5,g6,g7⟩
 ·cases h
end
end
section
open Go.RowKit Go.Sort
section
variable {P:CV}{N:Names}{C:Cx}{w:CU}{S:qad}{β:Pl}{B:Nat}{H:CW}{a:Act}{E:Env}{ρ:Go.Shelf.Ren}
def qmz(hS:Swf w S){w':CU}(h:Below w.heap.size w w'):Ext w.heap.size w S w' S:=by
 refine⟨h,λ_ _ h=>h,?_,λ_ _ h=>.inl h,?_⟩
 ·intro b j hs;have hlt:=hS.lt hs;simp only[World.cell?,h.block b hlt]
 ·intro b e n hs;have hlt:b<w.heap.size:=by
   unfold World.shape? at hs;split at hs
   ·rename_i hw;exact (Array.getElem?_eq_some_iff.1 hw).1
   ·cases hs
  simp only[World.shape?,h.block b hlt]at hs⊢;exact hs
end
section
variable {P:CV}{N:Names}{C:Cx}{w:CU}{S:qad}{β:Pl}{B:Nat}{H:CW}{a:Act}{E:Env}{ρ:Go.Shelf.Ren}
def qlh:Cy->CK (CL (CB))
 |[]=>some []
 |.s l::r=>match qlh r with|some x=>some (l::x)|none=>none
 |_=>none
def qeU(sep:CB):CL (CB)->CB
 |[]=>[]
 |x::r=>sep++(x++qeU sep r)
def qgD(sep:CB):CL (CB)->CB
 |[]=>[]
 |x::r=>x++qeU sep r
def qjh(ds:Cy):CG:=match ds with
 |[.l none es _,.s sep]=>match qlh es with
  |some xs=>if es.length<=140737488355328/\(qgD sep xs).length<=140737488355328 then some (.d (.s (qgD sep xs)),false)else none
  |none=>none
 |_=>none
def qyW(sep:CB):∀r,qeU sep r=Lib.joinTail sep r
 |[]=>rfl
 |x::r=>by rw[qeU,qyW sep r];simp[Lib.joinTail]
def qyV(sep:CB):∀xs,qgD sep xs=Lib.join xs sep
 |[]=>rfl
 |x::r=>by rw[qgD,qyW,Lib.join_cons]
def qCx:∀{es:Cy} {xs:CL (CB)},qlh es=some xs->es=xs.map DV.s
 |[],xs,h=>by cases h;rfl
 |.s l::r,xs,h=>by
  rw[qlh]at h;split at h
  ·rename_i x hx;cases h;rw[qCx hx];rfl
  ·cases h
 |.b _::_,_,h=>by cases h
 |.i _ _::_,_,h=>by cases h
 |.np::_,_,h=>by cases h
 |.nf::_,_,h=>by cases h
 |.ni::_,_,h=>by cases h
 |.nm::_,_,h=>by cases h
 |.tok _::_,_,h=>by cases h
 |.ifc _ _::_,_,h=>by cases h
 |.a _::_,_,h=>by cases h
 |.l _ _ _::_,_,h=>by cases h
def qHD{G:Nat->CK (DV×K)}{f:Nat}(L:Go.Proofs.Lays.n156 P ρ)(X:Go.Proofs.Builder.Extra P ρ)(hf:C.μ f=ρ.f 156){ds:Cy}{r:PV}{own:CO}(h:qjh ds=some (r,own)):qe8 P C N G f ds r own:=by
 unfold qjh at h;split at h;case h_2=>cases h
 rename_i es t sep;split at h;case h_2=>cases h
 rename_i xs hx;split at h;case isFalse=>cases h
 rename_i hn;obtain⟨h1,h2⟩:=hn;simp only[zzb,zzc]at h;obtain⟨rfl,rfl⟩:=h;have he:=qCx hx;subst he;intro w S us hS hG hl hr;match us,hl with
 |[u,v],_=>
 have k0:=hr 0 (by simp) (by simp);have k1:=hr 1 (by simp) (by simp);simp only[List.getElem_cons_zero,zzG]at k0 k1;obtain⟨s,rfl,hs⟩:∃s:ByteArray,v=.string s/\s.data.toList=sep:=by
  cases k1 with
  |s _ x hx=>exact⟨x,rfl,hx⟩
 subst hs;rw[hf];have key:∃(ad:CK Addr) (cap:Nat),u=.slice ad (xs.map λl:CB=>(⟨l.toArray⟩:ByteArray)).length cap/\((0<xs.length->∃blk off,ad=some ⟨blk,off,none⟩/\blk<w.heap.size/\∀(j:Nat) x,(xs.map λl:CB=>(⟨l.toArray⟩:ByteArray))[j]? = some x->w.cell? ⟨blk,off+j,none⟩=some (.string x))/\xs.length<=cap):=by
  cases k0 with
  |l _ _ _ ad cap blk off c hc _ ha hat hre=>
   simp only[zzo]at hc ha hat hre;refine⟨ad,cap,by simp,λh0=>⟨blk,off,ha h0,?_,?_⟩,hc⟩
   ·have:=(hat 0 h0 0 (by decide)).2.1;exact hS.lt this
   ·intro j x hj;rw[zzj]at hj;obtain⟨l,hl',rfl⟩:=Option.map_eq_some_iff.1 hj;have hlt:j<xs.length:=(zzk.1 hl').1;have e1:=(hat j hlt 0 (by decide)).1;have e2:=hre j (by simpa using hlt);have e3:(xs.map DV.s)[j]'(by simpa using hlt)=.s l:=by rw[List.getElem_map,(zzk.1 hl').2]
    rw[e3]at e2;have e4:∀y,Al w S (.s l) y->y=.string ⟨l.toArray⟩:=by
     intro y hy;cases hy with
     |s _ x hx=>rw[<-hx]
    have e5:=e4 _ e2;have e6:(c j) 0=.string ⟨l.toArray⟩:=e5;have e7:off+j*K.size none+0=off+j:=by have:K.size none=1:=rfl;rw[this];omega
    rw[e7,e6]at e1;exact e1
 obtain⟨ad,cap,rfl,hpos,hcap⟩:=key;have hm:(xs.map λl:CB=>(⟨l.toArray⟩:ByteArray)).map (·.data.toList)=xs:=by
  rw[List.map_map];conv=>rhs;rw[<-List.map_id xs]
  rfl
 cases xs with
 |nil=>refine (Go.Proofs.Any.strings_Join_none L X ad cap s w).mono ?_;rintro e w' ⟨rfl,rfl⟩;exact⟨_,S,rfl,⟨Below.refl _ _,λ_ _ h=>h,λ_ _ h=>rfl,λ_ _ h=>.inl h,λ_ _ _ h=>h⟩,hS,λ_=>.d _ _ (.s _ _ rfl),λh=>by cases h⟩
 |cons x0 xr=>
  obtain⟨blk,off,rfl,hb,hcell⟩:=hpos (by simp);have h3:(Lib.join (((x0::xr).map λl:CB=>(⟨l.toArray⟩:ByteArray)).map (·.data.toList)) s.data.toList).length<=140737488355328:=by rw[hm,<-qyV];exact h2
  refine (Go.Proofs.Any.strings_Join L X blk off cap ((x0::xr).map λl:CB=>(⟨l.toArray⟩:ByteArray)) s w hcell hb (by simpa using h1) (by simpa using hcap) h3).mono ?_;rintro e w' ⟨rfl,hb'⟩;have e1:=qmz hS hb';refine⟨_,S,rfl,e1,hS.ext e1,λ_=>.d _ _ (.s _ _ ?_),λh=>by cases h⟩;rw[hm,qyV]
end
section
variable {P:CV}{N:Names}{C:Cx}{ρ:Go.Shelf.Ren}
def qiW(l:CB)(c:UInt8):Nat:=match l with
 |[]=>0
 |x::r=>if x==c then qiW r c+1 else qiW r c
def qoK(ds:Cy):CG:=match ds with
 |[.s l,.s [c]]=>some (.d (.i .i64 (qiW l c)),false)
 |_=>none
def qFh(l:CB)(c:UInt8):qiW l c=Lib.countByte l c:=by
 induction l with
 |nil=>rfl
 |cons x r ih=>simp only[qiW,ih,Lib.countByte,List.count_cons];split<;>rfl
def qFj{G:Nat->CK (DV×K)}{f:Nat}(L:Go.Proofs.Lays.n138 P ρ)(hf:C.μ f=ρ.f 138){ds:Cy}{r:PV}{own:CO}(h:qoK ds=some (r,own)):qe8 P C N G f ds r own:=by
 unfold qoK at h;split at h;case h_2=>cases h
 rename_i l c;simp only[zzb,zzc]at h;obtain⟨rfl,rfl⟩:=h;intro w S us hS hG hl hr;match us,hl with
 |[u,v],_=>
 have k0:=hr 0 (by simp) (by simp);have k1:=hr 1 (by simp) (by simp);simp only[List.getElem_cons_zero,zzG]at k0 k1;obtain⟨s,rfl,hs⟩:∃s:ByteArray,u=.string s/\s.data.toList=l:=by
  cases k0 with
  |s _ x hx=>exact⟨x,rfl,hx⟩
 obtain⟨t,rfl,ht⟩:∃s:ByteArray,v=.string s/\s.data.toList=[c]:=by
  cases k1 with
  |s _ x hx=>exact⟨x,rfl,hx⟩
 have ht':t=⟨#[c]⟩:=by obtain⟨⟨t⟩⟩:=t;simp only at ht;subst ht;rfl
 subst ht' hs;rw[hf];refine (Go.Proofs.Any.strings_Count_one L s c w).mono ?_;rintro e w' ⟨rfl,rfl⟩;refine⟨_,S,rfl,Ext.refl _ _ _,hS,λ_=>?_,λh=>by cases h⟩;rw[qFh];exact .d _ _ (.i _ _)
end
section
variable {P:CV}{N:Names}{C:Cx}{ρ:Go.Shelf.Ren}{w:CU}{S:qad}
def qCB{G:Nat->CK (DV×K)}(hG:GOK N G w S){g n:Nat}(h:G (N.g g)=some (.tok n,none)):∃t v,w.cell? ⟨g,0,none⟩=some (.iface t v):=by
 obtain⟨-,f,h1,h2⟩:=hG g _ _ h;have h3:=(h1 0 (by simp[K.size])).1;change Al w S _ (f 0)at h2;generalize f 0=u at h2 h3;cases h2 with
 |tok _ t v=>exact⟨t,v,h3⟩
def qnq(ds:Cy):CG:=match ds with
 |[.s l,.i .i64 b,.i .i64 m]=>if b=10/\m=64/\l.length<=281474976710656 then match Lib.parseIntB 64 l with
   |.ok v=>some (.t [.d (.i .i64 v),.d .ni],false)
   |.range=>some (.t [.d (.i .i64 (Lib.intSat 64 l)),.d (.tok 0)],false)
   |_=>some (.t [.d (.i .i64 0),.d (.tok 0)],false)
  else none
 |_=>none
def qqA{w':CU}{x:Int}{d:DV}{u:CP}(h:Al w' S d u):Ac C w' S (λ_=>.pend) (.t [.d (.i .i64 x),.d d]) (.tuple #[.int .i64 x,u]):=by
 refine .t _ [.int .i64 x,u] rfl λj hj hj'=>?_
 match j,hj with
 |0,_=>exact .d _ _ (.i _ _)
 |1,_=>exact .d _ _ h
def qOt{G:Nat->CK (DV×K)}{f:Nat}(L:Go.Proofs.LaysC.n174 P ρ)(hf:C.μ f=ρ.f 174)(h15:G (N.g (ρ.g 15))=some (.tok 0,none))(h16:G (N.g (ρ.g 16))=some (.tok 1,none)){ds:Cy}{r:PV}{own:CO}(h:qnq ds=some (r,own)):qe8 P C N G f ds r own:=by
 unfold qnq at h;split at h;case h_2=>cases h
 rename_i l b m;split at h;case isFalse=>cases h
 rename_i hc;obtain⟨rfl,rfl,hlen⟩:=hc;intro w S us hS hG hl hr;match us,hl with
 |[u,v,x],_=>
 have k0:=hr 0 (by simp) (by simp);have k1:=hr 1 (by simp) (by simp);have k2:=hr 2 (by simp) (by simp);simp only[List.getElem_cons_zero,zzG]at k0 k1 k2;obtain⟨s,rfl,hs⟩:∃s:ByteArray,u=.string s/\s.data.toList=l:=by
  cases k0 with
  |s _ x hx=>exact⟨x,rfl,hx⟩
 have hv:v=.int .i64 10:=by cases k1;rfl
 have hx:x=.int .i64 64:=by cases k2;rfl
 subst hv hx hs;have hsz:s.size<=281474976710656:=by simpa using hlen
 rw[hf];cases hn:Lib.parseIntB 64 s.data.toList<;>rw[hn]at h
 ·rename_i n;simp only[zzb,zzc]at h;obtain⟨rfl,rfl⟩:=h;refine (Go.Proofs.Any.strconv_ParseInt_10_at64_ok L s (by omega) n hn w).mono ?_;rintro e w' ⟨rfl,hw⟩;have hb:Below w.heap.size w w':=by
   rcases hw with rfl|⟨t,rfl⟩
   ·exact Below.refl _ _
   ·exact Lib.bytesWorld_below _ _ _
  have e1:=qmz hS hb;exact⟨_,S,rfl,e1,hS.ext e1,λ_=>qqA .ni,λh=>by cases h⟩
 ·simp only[zzb,zzc]at h;obtain⟨rfl,rfl⟩:=h;obtain⟨t,v,hv⟩:=qCB hG h15;refine (Go.Proofs.Any.strconv_ParseInt_10_at64_syntax L s hsz hn _ w hv (.inr ⟨t,v,rfl⟩)).mono ?_;rintro e w' ⟨n,rfl,-,-,hb⟩;have e1:=qmz hS hb;exact⟨_,S,rfl,e1,hS.ext e1,λ_=>qqA (.tok _ _ _),λh=>by cases h⟩
 ·simp only[zzb,zzc]at h;obtain⟨rfl,rfl⟩:=h;obtain⟨t,v,hv⟩:=qCB hG h16;refine (Go.Proofs.Any.strconv_ParseInt_10_at64_range L s hsz hn _ w hv (.inr ⟨t,v,rfl⟩)).mono ?_;rintro e w' ⟨n,rfl,-,-,hb⟩;have e1:=qmz hS hb;exact⟨_,S,rfl,e1,hS.ext e1,λ_=>qqA (.tok _ _ _),λh=>by cases h⟩
def qmw(ds:Cy):CG:=match ds with
 |[.s l]=>if l.length<=18 then match Lib.atoi l with
   |some v=>some (.t [.d (.i .i64 v),.d .ni],false)
   |none=>none
  else none
 |_=>none
def qEr{G:Nat->CK (DV×K)}{f:Nat}(L:Go.Proofs.Lays.n172 P ρ)(hf:C.μ f=ρ.f 172){ds:Cy}{r:PV}{own:CO}(h:qmw ds=some (r,own)):qe8 P C N G f ds r own:=by
 unfold qmw at h;split at h;case h_2=>cases h
 rename_i l;split at h;case isFalse=>cases h
 rename_i hc;split at h;case h_2=>cases h
 rename_i n hn;simp only[zzb,zzc]at h;obtain⟨rfl,rfl⟩:=h;intro w S us hS hG hl hr;match us,hl with
 |[u],_=>
 have k0:=hr 0 (by simp) (by simp);simp only[List.getElem_cons_zero]at k0;obtain⟨s,rfl,hs⟩:∃s:ByteArray,u=.string s/\s.data.toList=l:=by
  cases k0 with
  |s _ x hx=>exact⟨x,rfl,hx⟩
 subst hs;rw[hf];refine (Go.Proofs.Any.strconv_Atoi L s n (by simpa using hc) hn w).mono ?_;rintro e w' ⟨rfl,t,rfl⟩;have e1:=qmz hS (Lib.bytesWorld_below w (ρ.t 5) t);exact⟨_,S,rfl,e1,hS.ext e1,λ_=>qqA .ni,λh=>by cases h⟩
end
end
section
open Go.RowKit
inductive PT where
 |nil
 |bin (k:Nat) (F:PF) (l r:PT)
noncomputable def PT.get(t:PT):Nat->CK PF:=@PT.rec (λ_=>Nat->CK PF) (λ_=>none) (λk F _ _ gl gr n=>@Bool.rec (λ_=>CK PF) (@Bool.rec (λ_=>CK PF) (gr n) (gl n) (Nat.ble (Nat.succ n) k)) (some F) (Nat.beq n k)) t
def PT.All(p:Nat->PF->Prop):PT->Prop
 |.nil=>True
 |.bin k F l r=>p k F/\l.All p/\r.All p
def PT.BL{p:Nat->PF->Prop}:∀{t:PT} {n:Nat} {F:PF},t.get n=some F->t.All p->p n F
 |.nil,n,F,h,_=>by cases h
 |.bin k G l r,n,F,h,ha=>by
  change @Bool.rec (λ_=>CK PF) (@Bool.rec (λ_=>CK PF) (r.get n) (l.get n) (Nat.ble (Nat.succ n) k)) (some G) (Nat.beq n k)=some F at h;cases hb:Nat.beq n k with
  |true=>rw[hb]at h;have:n=k:=zzy hb;subst this;cases h;exact ha.1
  |false=>
   rw[hb]at h;change @Bool.rec (λ_=>CK PF) (r.get n) (l.get n) (Nat.ble (Nat.succ n) k)=some F at h;cases hc:Nat.ble (Nat.succ n) k with
   |true=>rw[hc]at h;exact PT.BL (t:=l) h ha.2.1
   |false=>rw[hc]at h;exact PT.BL (t:=r) h ha.2.2
inductive XK where
 |clone (k:K) (b:Nat)
 |cnt
 |par
 |ato
 |join
def XK.run:XK->Cy->CG
 |.clone k b,ds=>qmJ k b ds
 |.cnt,ds=>qoK ds
 |.par,ds=>qnq ds
 |.ato,ds=>qmw ds
 |.join,ds=>qjh ds
inductive RK where
 |ins (k:K) (b:Nat)
def RK.run:RK->Cz->CW->CJ
 |.ins k b,args,H=>qkM k b args H
noncomputable def qb0{α β:Type}(f:α->β)(z:β)(l:CL (Nat×α))(n:Nat):β:=@List.rec (Nat×α) (λ_=>β) z (λp _ ih=>@Prod.rec Nat α (λ_=>β) (λm x=>@Bool.rec (λ_=>β) ih (f x) (Nat.beq n m)) p) l
def qh8{α β:Type}{f:α->β}{z:β}:∀{l:CL (Nat×α)} {n:Nat},qb0 f z l n=z\/∃x,(n,x)∈l/\qb0 f z l n=f x
 |[],n=>.inl rfl
 | (m,x)::r,n=>by
  change (@Bool.rec (λ_=>β) (qb0 f z r n) (f x) (Nat.beq n m))=z\/∃y,(n,y)∈(m,x)::r/\(@Bool.rec (λ_=>β) (qb0 f z r n) (f x) (Nat.beq n m))=f y;cases hb:Nat.beq n m with
  |true=>have:n=m:=zzy hb;subst this;exact .inr ⟨x,zzr ..,rfl⟩
  |false=>
   rcases qh8 (f:=f) (z:=z) (l:=r) (n:=n)with h|⟨y,h1,h2⟩
   ·exact .inl h
   ·exact .inr ⟨y,zzi _ h1,h2⟩
noncomputable def qni(t:PT)(xs:CL (Nat×XK))(rs:CL (Nat×RK))(gs:CL (Nat×DV×K)):Tab where
 F:=t.get
 X:=qb0 XK.run (λ_=>none) xs
 R:=qb0 RK.run (λ_ _=>none) rs
 G:=qb0 (λx=>some x) none gs
section
variable {P:CV}{N:Names}{C:Cx}
def XOK(P:CV)(N:Names)(C:Cx)(G:Nat->CK (DV×K))(f:Nat):XK->Prop
 |.clone k b=>qvI P N (C.μ f) k b/\∃fn,P.funcs[C.μ f]? = some fn/\fn.body.isNone=false/\fn.name ≠ "runtime.NumGoroutine"
 |.cnt=>∃ρ,Go.Proofs.Lays.n138 P ρ/\C.μ f=ρ.f 138
 |.par=>∃ρ,Go.Proofs.LaysC.n174 P ρ/\C.μ f=ρ.f 174/\G (N.g (ρ.g 15))=some (.tok 0,none)/\G (N.g (ρ.g 16))=some (.tok 1,none)
 |.ato=>∃ρ,Go.Proofs.Lays.n172 P ρ/\C.μ f=ρ.f 172
 |.join=>∃ρ,Go.Proofs.Lays.n156 P ρ/\Go.Proofs.Builder.Extra P ρ/\C.μ f=ρ.f 156
def ROK(P:CV)(N:Names)(C:Cx)(G:Nat->CK (DV×K))(f:Nat):RK->Prop
 |.ins k b=>∃ρ z,Go.Proofs.InsL P (C.μ f) ρ k.size/\kq P (ρ.t 9)=some k/\zq P (ρ.t 9)=some z/\P.bytesOf (ρ.t 9)=b/\b≠0/\0<k.size
def qSn{G:Nat->CK (DV×K)}(hN:NOK P N C G){f:Nat}{x:XK}(h:XOK P N C G f x){ds:Cy}{r:PV}{own:CO}(hr:x.run ds=some (r,own)):qe8 P C N G f ds r own:=by
 cases x with
 |clone k b=>exact qE8 hN h.1 hr
 |cnt=>obtain⟨ρ,h1,h2⟩:=h;exact qFj h1 h2 hr
 |par=>obtain⟨ρ,h1,h2,h3,h4⟩:=h;exact qOt h1 h2 h3 h4 hr
 |ato=>obtain⟨ρ,h1,h2⟩:=h;exact qEr h1 h2 hr
 |join=>obtain⟨ρ,h1,h2,h3⟩:=h;exact qHD h1 h2 h3 hr
def qSo{G:Nat->CK (DV×K)}{f:Nat}{x:XK}(h:XOK P N C G f x):∃fn,P.funcs[C.μ f]? = some fn/\fn.body.isNone=false/\fn.name ≠ "runtime.NumGoroutine" :=by
 cases x with
 |clone k b=>exact h.2
 |cnt=>obtain⟨ρ,h1,h2⟩:=h;exact⟨_,by rw[h2];exact h1.f138,rfl,of_decide_eq_true rfl⟩
 |par=>obtain⟨ρ,h1,h2,-⟩:=h;exact⟨_,by rw[h2];exact h1.f174,rfl,of_decide_eq_true rfl⟩
 |ato=>obtain⟨ρ,h1,h2⟩:=h;exact⟨_,by rw[h2];exact h1.f172,rfl,of_decide_eq_true rfl⟩
 |join=>obtain⟨ρ,h1,-,h2⟩:=h;exact⟨_,by rw[h2];exact h1.f156,rfl,of_decide_eq_true rfl⟩
def qPp{G:Nat->CK (DV×K)}{f:Nat}{x:RK}(h:ROK P N C G f x){args:Cz}{H H':CW}{r:PV}(hr:x.run args H=some (r,H')):qnZ P C N G f args H r H':=by
 cases x with
 |ins k b=>obtain⟨ρ,z,h1,h2,h3,h4,h5,h6⟩:=h;subst h4;exact qGZ h1 rfl h2 h3 h5 h6 hr
def qPq{G:Nat->CK (DV×K)}{f:Nat}{x:RK}(h:ROK P N C G f x):∃fn,P.funcs[C.μ f]? = some fn/\fn.body.isNone=false/\fn.name ≠ "runtime.NumGoroutine" :=by
 cases x with
 |ins k b=>obtain⟨ρ,z,h1,-⟩:=h;obtain⟨nm,hn,hf⟩:=h1.bears;exact⟨_,hf,rfl,by simpa using hn⟩
def qQe{t:PT}{xs:CL (Nat×XK)}{rs:CL (Nat×RK)}{gs:CL (Nat×DV×K)}(hN:NOK P N C (qni t xs rs gs).G)(hF:t.All λn F=>qhK P N (C.μ n) F)(hX:∀x∈xs,XOK P N C (qni t xs rs gs).G x.1 x.2)(hR:∀x∈rs,ROK P N C (qni t xs rs gs).G x.1 x.2):TabOK P N C (qni t xs rs gs):=by
 refine⟨hN,λf F h=>PT.BL (p:=λn F=>qhK P N (C.μ n) F) (t:=t) (n:=f) h hF,?_,?_,?_,?_⟩
 ·intro f ds r own _ h;change qb0 XK.run (λ_=>none) xs f ds=_ at h;rcases qh8 (f:=XK.run) (z:=λ_=>none) (l:=xs) (n:=f)with h1|⟨x,h1,h2⟩
  ·rw[h1]at h;cases h
  ·rw[h2]at h;exact qSn hN (hX _ h1) h
 ·intro f args H r H' _ h;change qb0 RK.run (λ_ _=>none) rs f args H=_ at h;rcases qh8 (f:=RK.run) (z:=λ_ _=>none) (l:=rs) (n:=f)with h1|⟨x,h1,h2⟩
  ·rw[h1]at h;cases h
  ·rw[h2]at h;exact qPp (hR _ h1) h
 ·intro f args H r _ h;change qb0 RK.run (λ_ _=>none) rs f args H=_ at h;rcases qh8 (f:=RK.run) (z:=λ_ _=>none) (l:=rs) (n:=f)with h1|⟨x,h1,h2⟩
  ·rw[h1]at h;cases h
  ·exact qPq (hR _ h1)
 ·intro f ds r _ h;change qb0 XK.run (λ_=>none) xs f ds=_ at h;rcases qh8 (f:=XK.run) (z:=λ_=>none) (l:=xs) (n:=f)with h1|⟨x,h1,h2⟩
  ·rw[h1]at h;cases h
  ·exact qSo (hX _ h1)
end
end
section
open Go.RowKit Go.WideShapes Go.Deep
inductive Ty where
 |b
 |i (k:IntKind)
 |s
 |e
 |l (k:K) (b:Nat) (ts:List Ty)
def qbt:Nat:=140737488355328
mutual
inductive XL:DV->Prop
 |mk (es:List DV):es.length<=maxLen->(∀e∈es,XE e)->es.length*56<=qbt->XL (.l (some 4) es false)
inductive XE:DV->Prop
 |mk (o n:Int) (s:List UInt8) (a:DV):(Lit.int .i64 o).wf=true->(Lit.int .i64 n).wf=true->s.length<=maxLen->XL a->XE (.a [.i .i64 o,.i .i64 n,.s s,a])
end
mutual
def Has:Ty->DV->Prop
 |.e,x=>XL x
 |.b,x=>∃c,x=.b c
 |.i k,x=>∃n,x=.i k n/\(Lit.int k n).wf=true
 |.s,x=>∃l,x=.s l/\l.length<=maxLen
 |.l k b ts,x=>∃es,x=.l k es false/\es.length<=maxLen/\es.length*b<=qbt/\∀e∈es,∃cs,mkD k cs=some e/\qaD ts cs
def qaD:CL Ty->Cy->Prop
 |[],[]=>True
 |t::ts,x::xs=>Has t x/\qaD ts xs
 |_,_=>False
end
def qjJ(P:CV)(rec:CQ->CK (CL Ty)):CL Field->Nat->Nat->CK (CL Ty)
 |[],off,n=>if off=n then some []else none
 |f::fs,off,n=>if f.offset≠off then none else (rec f.type).bind λa=>if a.length≠P.cellsOf f.type then none else (qjJ P rec fs (off+a.length) n).bind λb=>some (a++b)
def tyB(P:CV)(u:CQ):CK (CL Ty):=match P.underlying u with
 |some .bool=>some [.b]
 |some (.int k)=>some [.i k]
 |some .string=>some [.s]
 |_=>none
def qyR:CK (CL Ty)->CO
 |some [.i .i64,.i .i64,.s,.e]=>true
 |_=>false
def qsg(P:CV)(t:CQ):CO:=match P.underlying t with
 |some (.slice e)=>decide (kq P e=some (some 4))&&(decide (P.cellsOf e=4/\P.bytesOf e=56)&&match P.underlying e with
  |some (.struct fs)=>qyR (qjJ P (λu=>if u=t then some [.e]else tyB P u) fs.toList 0 4)
  |_=>false)
 |_=>false
def qhB(P:CV):Nat->CQ->CK (CL Ty)
 |0,_=>none
 |n+1,t=>match P.underlying t with
  |some .bool=>some [.b]
  |some (.int k)=>some [.i k]
  |some .string=>some [.s]
  |some (.slice e)=>if qsg P t=true then some [.e]else (kq P e).bind λk=>(qhB P n e).bind λts=>if ts.length=P.cellsOf e/\k.size=ts.length/\0<ts.length then some [.l k (P.bytesOf e) ts]else none
  |some (.struct fs)=>qjJ P (qhB P n) fs.toList 0 (P.cellsOf t)
  |some (.array m e)=>(qhB P n e).bind λts=>if ts.length=P.cellsOf e/\P.cellsOf t=m*P.cellsOf e then some (List.replicate m ts).flatten else none
  |_=>none
def Live(w:CU):qad:=λb o=>∃v,w.cell? ⟨b,o,none⟩=some v
def Live.swf(w:CU):Swf w (Live w):=λ_ _ h=>h
def R1(w:CU)(t:Ty)(v:CP):Prop:=flat v/\∃x,Has t x/\Al w (Live w) x v
def CR(w:CU):CL Ty->CL CP->Prop
 |[],[]=>True
 |t::ts,v::vs=>R1 w t v/\CR w ts vs
 |_,_=>False
def CR.append{w:CU}:∀{ts:CL Ty} {vs:CL CP} {us:CL Ty} {ws:CL CP},CR w ts vs->CR w us ws->CR w (ts++us) (vs++ws)
 |[],[],_,_,_,k=>k
 |_::_,_::_,_,_,h,k=>⟨h.1,h.2.append k⟩
 |[],_::_,_,_,h,_=>h.elim
 |_::_,[],_,_,h,_=>h.elim
def CR.len{w:CU}:∀{ts:CL Ty} {vs:CL CP},CR w ts vs->ts.length=vs.length
 |[],[],_=>rfl
 |_::_,_::_,h=>by simp[h.2.len]
 |[],_::_,h=>h.elim
 |_::_,[],h=>h.elim
def CR.flat{w:CU}:∀{ts:CL Ty} {vs:CL CP},CR w ts vs->∀v∈vs,flat v
 |[],[],_,v,hv=>by cases hv
 |_::_,_::_,h,v,hv=>by
  rcases List.mem_cons.1 hv with rfl|hv
  ·exact h.1.1
  ·exact h.2.flat v hv
 |[],_::_,h,_,_=>h.elim
 |_::_,[],h,_,_=>h.elim
def CR.data{w:CU}:∀{ts:CL Ty} {vs:CL CP},CR w ts vs->∃xs,qaD ts xs/\xs.length=vs.length/\∀j (h:j<xs.length) (h':j<vs.length),Al w (Live w) xs[j] vs[j]
 |[],[],_=>⟨[],by simp[qaD],rfl,λj h=>by cases h⟩
 |_::_,_::_,h=>by
  obtain⟨xs,h1,h2,h3⟩:=h.2.data;obtain⟨-,x,h4,h5⟩:=h.1;refine⟨x::xs,by rw[qaD];exact⟨h4,h1⟩,by simp[h2],?_⟩;intro j hj hj';cases j with
  |zero=>exact h5
  |succ j=>exact h3 j _ _
 |[],_::_,h=>h.elim
 |_::_,[],h=>h.elim
def CR.val{w:CU}{ts:CL Ty}{vs:CL CP}(h:CR w ts vs){k:K}(hk:k.size=ts.length)(c:Nat->CP)(hc:∀m (h:m<vs.length),c m=vs[m]) :
  ∃xs e,mkD k xs=some e/\qaD ts xs/\Al w (Live w) e (mkV k c):=by
 obtain⟨xs,h1,h2,h3⟩:=h.data;have hl:=h.len;cases k with
 |none=>
  simp only[K.size]at hk;match xs,vs,h2 with
  |[x],[v],_=>refine⟨[x],x,rfl,h1,?_⟩;have:=h3 0 (by simp) (by simp);simp only[mkV];rw[hc 0 (by simp)];exact this
  |[],[],_=>simp at hl;subst hl;simp at hk
  |_::_::_,vs,e=>rw[<-hl,<-hk]at e;simp at e
 |some n=>
  simp only[K.size]at hk;have e:(List.range n).map c=vs:=by
   apply List.ext_getElem
   ·simp;omega
   ·intro m hm hm';simp[hc m hm']
  refine⟨xs,.a xs,by simp[mkD];omega,h1,?_⟩;simp only[mkV,e];exact .a xs vs h2 h.flat h3
section
variable {H:Type}{enc:CQ × CP->H}{P:CV}{w:CU}{sp:Nat->CO}{held:CO}
def Wts(P:CV)(t:CQ)(d:DataW H):Prop:=∀n∈d.weights P t,n<=reachBytes
def qvC{e:CQ}:∀{l:CL (DataW H)},(∀n∈DataW.weightsAll P e l,n<=reachBytes)->∀d∈l,Wts P e d
 |[],_,d,hd=>by cases hd
 |x::r,h,d,hd=>by
  simp only[DataW.weightsAll,zzB]at h;rcases List.mem_cons.1 hd with rfl|hd
  ·exact λn hn=>h n (.inl hn)
  ·exact qvC (λn hn=>h n (.inr hn)) d hd
def qvD:∀{ts:CL CQ} {l:CL (DataW H)},(∀n∈DataW.weightsEach P ts l,n<=reachBytes)->∀i (h:i<ts.length) (h':i<l.length),Wts P ts[i] l[i]
 |[],_,_,i,h,_=>by cases h
 |_::_,[],_,i,_,h'=>by cases h'
 |t::ts,d::r,h,i,hi,hi'=>by
  simp only[DataW.weightsEach,zzB]at h;cases i with
  |zero=>exact λn hn=>h n (.inl hn)
  |succ i=>exact qvD (λn hn=>h n (.inr hn)) i (by simpa using hi) (by simpa using hi')
def qSe{t e:CQ}{el sl:CL (DataW H)}(hu:P.underlying t=some (.slice e))(h:Wts P t (.slice el sl)):el.length*P.bytesOf e<=reachBytes/\∀d∈el,Wts P e d:=by unfold Wts at h;simp only[DataW.weights,hu,List.mem_cons,zzB]at h;refine⟨zzL (zzh _ (Nat.le_add_right _ _)) (h _ (.inl rfl)),λd hd=>qvC (λn hn=>h n (.inr (.inl hn))) d hd⟩
def qDe{t:CQ}{fs:Array Field}{l:CL (DataW H)}(hu:P.underlying t=some (.struct fs))(h:Wts P t (.agg l))(i:Nat)(hi:i<fs.size)(hi':i<l.length):Wts P fs[i].type l[i]:=by unfold Wts at h;simp only[DataW.weights,hu]at h;have:=qvD h i (by simpa using hi) hi';simpa using this
def qSd{t e:CQ}{m:Nat}{l:CL (DataW H)}(hu:P.underlying t=some (.array m e))(h:Wts P t (.agg l)):∀d∈l,Wts P e d:=by unfold Wts at h;simp only[DataW.weights,hu]at h;exact qvC h
def qrX{rec:CQ->CK (CL Ty)}{cs:CL CP}{n:Nat}(hn:cs.length=n):∀(fs:CL Field) (off:Nat) (ts:CL Ty),off<=n->qjJ P rec fs off n=some ts->
  (∀f∈fs,∀ts',rec f.type=some ts'->CR w ts' ((cs.drop f.offset).take (P.cellsOf f.type)))->CR w ts (cs.drop off)
 |[],off,ts,ho,h,_=>by
  simp only[qjJ]at h;split at h
  ·cases h;rw[List.drop_eq_nil_iff.2 (by omega)];trivial
  ·cases h
 |f::fs,off,ts,ho,h,hf=>by
  simp only[qjJ]at h;split at h
  ·cases h
  rename_i h1;have h1:f.offset=off:=by simpa using h1
  obtain⟨a,ha,h⟩:=zza.1 h;split at h
  ·cases h
  rename_i h2;have h2:a.length=P.cellsOf f.type:=by simpa using h2
  obtain⟨b,hb,h⟩:=zza.1 h;cases h;have k1:=hf f (zzr ..) a ha;have k1l:=k1.len;rw[h1,<-h2]at k1;have hle:off+a.length<=n:=by rw[zzI,zzJ,h1]at k1l;omega
  have k2:=qrX hn fs (off+a.length) b hle hb (λg hg=>hf g (zzi _ hg));have:=k1.append k2
  rwa [<-List.drop_drop,List.take_append_drop]at this
def qxb{cs:CL CP}{c:Nat}{ts:CL Ty}(ht:ts.length=c):∀(m i:Nat),cs.length=(i+m)*c->(∀j,i<=j->j<i+m->CR w ts ((cs.drop (j*c)).take c))->CR w (List.replicate m ts).flatten (cs.drop (i*c))
 |0,i,hl,_=>by rw[List.drop_eq_nil_iff.2 (by rw[hl];simp)];trivial
 |m+1,i,hl,h=>by have k1:=h i (zzt _) (by omega);have k2:=qxb ht m (i+1) (by rw[hl];congr 1;omega) (λj hj hj'=>h j (by omega) (by omega));have:=k1.append k2;rw[Nat.succ_mul,<-List.drop_drop,List.take_append_drop]at this;simpa[List.replicate_succ]using this
def qxc{t e:CQ}{fuel:Nat}{cs:CL CP}{x:DataW H×CL MemPlace}{k:K}{c:Nat}{Pe:DV->Prop}(hu:P.underlying t=some (.slice e))(hd:DataW.trod enc P w 0 sp held fuel t cs=some x)(hc1:c=P.cellsOf e)(hc2:k.size=c)(hc3:0<c)(hw:Wts P t x.1)
  (hel:∀n cs' x',n<fuel->DataW.trod enc P w 0 sp held n e cs'=some x'->Wts P e x'.1->∃us,us.length=c/\CR w us cs'/\∀xs ee,mkD k xs=some ee->qaD us xs->Pe ee) :
  ∃v E,cs=[v]/\flat v/\Al w (Live w) (.l k E false) v/\E.length<=maxLen/\E.length*P.bytesOf e<=qbt/\∀e∈E,Pe e:=by
 rcases DataW.trod_slice hu hd with ⟨rfl,-⟩|⟨a,len,cap,elems,rest,n,rfl,rfl,hxe,hb,hl,hm,hlen,hx,-,-⟩
 ·refine⟨_,[],rfl,rfl,?_,by simp,by simp,λe he=>by cases he⟩;exact .l k [] false none 0 0 0 (λ_ _=>.bool false) (zzt _) (λh=>by cases h) (λh=>by cases h) (λj h=>by cases h) (λj h=>by cases h)
 ·rw[hxe]at hw;obtain⟨hw1,hw2⟩:=qSe hu hw;have hs:∀i,i<len->∃V:(Nat->CP)×DV,(∀q,q<k.size->w.cell? (a.add (i*P.cellsOf e+q))=some (V.1 q)/\flat (V.1 q))/\Pe V.2/\Al w (Live w) V.2 (mkV k V.1):=by
   intro i hi;have h0:=hx i hi;rw[zze (by omega)]at h0;obtain⟨cs',h1,h2⟩:=zza.1 h0;obtain⟨us,hus,h3,hpe⟩:=hel n cs' _ (Nat.lt_succ_self n) h2 (hw2 _ (zzN.2 ⟨_,zzs _,rfl⟩));obtain⟨-,h4,h5⟩:=World.cells?_some h1;obtain⟨xs,ee,e1,e2,e3⟩:=h3.val (k:=k) (by omega) (λq=>cs'.getD q (.bool false)) (λq hq=>by simp[hq]);have hul:=h3.len;refine⟨(λq=>cs'.getD q (.bool false),ee),?_,hpe xs ee e1 e2,e3⟩;intro q hq;have hq':q<cs'.length:=by omega
   have h6:=h5 q (by omega);rw[zze hq']at h6;have e7:(cs'.getD q (.bool false))=cs'[q]:=by simp[hq']
   refine⟨?_,?_⟩
   ·rw[show (a.add (i*P.cellsOf e+q))=(a.add (i*P.cellsOf e)).add q by by_cases g1:i*P.cellsOf e=0<;>by_cases g2:q=0<;>simp[Addr.add,g1,g2,Nat.add_assoc]];simp only[e7];exact h6
   ·show flat (cs'.getD q (.bool false));rw[e7];exact h3.flat _ (zzs _)
  have:Inhabited ((Nat->CP)×DV):=⟨(λ_=>.bool false,.np)⟩;obtain⟨V,hV⟩:=choose_lt hs;obtain⟨E,hE,hEV⟩:∃E:Cy,E.length=len/\∀i (h:i<E.length),E[i]=(V i).2:=⟨(List.range len).map λi=>(V i).2,by simp,λi h=>by simp⟩;subst hE;have hk0:0<k.size:=by omega
  have sp0:∀j,j<E.length->a.spot=none:=by intro j hj;have:=World.cell?_spot ((hV 0 (by omega)).1 0 hk0).1;simpa[Addr.add]using this
  refine⟨_,E,rfl,rfl,?_,by omega,by simp only[zzo,hlen]at hw1;unfold qbt;unfold reachBytes at hw1;omega,?_⟩
  ·refine Al.l (w:=w) (S:=Live w) k E false (some a) cap a.block a.off (λj=>(V j).1) hl (λh=>by cases h) ?_ ?_ ?_
   ·intro h0;have:=sp0 0 h0;cases a;simp_all
   ·intro j hj q hq;obtain⟨g1,g2⟩:=(hV j hj).1 q hq;have hs0:=sp0 j hj;have e8:a.add (j*P.cellsOf e+q)=⟨a.block,a.off+j*k.size+q,none⟩:=by
     rw[<-hc1,<-hc2];obtain⟨ab,ao,as0⟩:=a;simp only at hs0;subst hs0;by_cases g:j*k.size+q=0<;>simp[Addr.add,g,Nat.add_assoc]
     omega
    rw[e8]at g1;exact⟨g1,⟨_,g1⟩,g2⟩
   ·intro j hj;rw[hEV j hj];exact (hV j hj).2.2
  ·intro ee he;obtain⟨i,hi,rfl⟩:=zzO he;rw[hEV i hi];exact (hV i hi).2.1
def qFn{u:CQ}{fuel:Nat}{cs:CL CP}{x:DataW H×CL MemPlace}{ts:CL Ty}(hd:DataW.trod enc P w 0 sp held fuel u cs=some x)(h:tyB P u=some ts):CR w ts cs:=by
 unfold tyB at h;split at h
 ·rename_i hu;cases h;obtain⟨b,rfl,-⟩:=DataW.trod_bool hu hd;exact⟨⟨rfl,.b b,by simp[Has],.b b⟩,trivial⟩
 ·rename_i k hu;cases h;obtain⟨m,rfl,-,hw⟩:=DataW.trod_int hu hd;exact⟨⟨rfl,.i k m,by simp[Has,hw],.i k m⟩,trivial⟩
 ·rename_i hu;cases h;obtain⟨s,rfl,-,hs⟩:=DataW.trod_string hu hd;exact⟨⟨rfl,.s s.data.toList,by simpa[Has]using hs,.s _ s rfl⟩,trivial⟩
 ·cases h
def qSl{xs:Cy}{ee:DV}(h1:mkD (some 4) xs=some ee)(h2:qaD [.i .i64,.i .i64,.s,.e] xs):XE ee:=by
 match xs,h2 with
 |[x1,x2,x3,x4],h2=>simp only[qaD,Has,and_true]at h2;obtain⟨⟨o,rfl,ho⟩,⟨n,rfl,hn⟩,⟨s,rfl,hs⟩,h4⟩:=h2;simp only[mkD,zzn,List.length_nil,if_true,zzb]at h1;subst h1;exact .mk o n s x4 ho hn hs h4
 |[],h2=>simp[qaD]at h2
 |[_],h2=>simp[qaD]at h2
 |[_,_],h2=>simp[qaD]at h2
 |[_,_,_],h2=>simp[qaD]at h2
 |_::_::_::_::_::_,h2=>simp[qaD]at h2
def qSm{t:CQ}(ht:qsg P t=true):∀(m fuel:Nat) (cs:CL CP) (x:DataW H×CL MemPlace),fuel<=m->DataW.trod enc P w 0 sp held fuel t cs=some x->Wts P t x.1->CR w [.e] cs:=by
 have ht0:=ht;unfold qsg at ht;split at ht;case h_2=>cases ht
 rename_i e hu;simp only[zzf,zzq]at ht;obtain⟨hk,⟨hc,hb⟩,ht⟩:=ht;split at ht;case h_2=>cases ht
 rename_i fs hf;obtain⟨ts,hts,h4⟩:∃ts,qjJ P (λu=>if u=t then some [.e]else tyB P u) fs.toList 0 4=some ts/\ts=[.i .i64,.i .i64,.s,.e]:=by
  unfold qyR at ht;split at ht
  ·rename_i hq;exact⟨_,hq,rfl⟩
  ·cases ht
 subst h4;intro m;induction m with
 |zero=>
  intro fuel cs x hm hd _;obtain rfl:fuel=0:=by omega
  simp[DataW.trod]at hd
 |succ m ih=>
  intro fuel cs x hm hd hw;obtain⟨v,E,rfl,hfl,hr,hlen,hlb,hE⟩:=qxc (k:=some 4) (c:=4) (Pe:=XE) hu hd hc.symm rfl (by decide) hw (λn cs' x' hn hd' hw'=>by
   refine⟨_,rfl,?_,λxs ee h1 h2=>qSl h1 h2⟩;obtain⟨xs,n',rfl,hxe,hl,hl2,hx⟩:=DataW.trod_struct hf hd';rw[hxe]at hw';have:=qrX (P:=P) (w:=w) (rec:=λu=>if u=t then some [.e]else tyB P u) (hl.trans hc) fs.toList 0 _ (zzK _) hts (λf hf' ts' hts'=>by
    obtain⟨i,hi,rfl⟩:=zzO hf';have hi':i<fs.size:=by simpa using hi
    have h5:=hx i fs[i] (by simp[hi']);rw[zze (by omega)]at h5;simp only[Array.getElem_toList]at hts'⊢;split at hts'
    ·rename_i hft;cases hts';rw[hft]at h5⊢;exact ih n' _ _ (by omega) h5 (by have:=qDe hf hw' i hi' (by simp;omega);rw[hft]at this;simpa using this)
    ·exact qFn h5 hts')
   simpa using this)
  exact⟨⟨hfl,_,by rw[Has];exact .mk E hlen hE (by rw[<-hb];exact hlb),hr⟩,trivial⟩
def qFo(n:Nat):∀{fuel:Nat} {t:CQ} {cs:CL CP} {x:DataW H×CL MemPlace} {ts:CL Ty},DataW.trod enc P w 0 sp held fuel t cs=some x->Wts P t x.1->qhB P n t=some ts->CR w ts cs:=by
 induction n with
 |zero=>intro fuel t cs x ts _ _ h;cases h
 |succ n ih=>
  intro fuel t cs x ts hd hw h;simp only[qhB]at h;split at h
  ·rename_i hu;cases h;obtain⟨b,rfl,-⟩:=DataW.trod_bool hu hd;exact⟨⟨rfl,.b b,by simp[Has],.b b⟩,trivial⟩
  ·rename_i k hu;cases h;obtain⟨m,rfl,-,hw⟩:=DataW.trod_int hu hd;exact⟨⟨rfl,.i k m,by simp[Has,hw],.i k m⟩,trivial⟩
  ·rename_i hu;cases h;obtain⟨s,rfl,-,hs⟩:=DataW.trod_string hu hd;exact⟨⟨rfl,.s s.data.toList,by simpa[Has]using hs,.s _ s rfl⟩,trivial⟩
  ·rename_i e hu;split at h
   ·rename_i hX;cases h;exact qSm hX fuel fuel cs x (zzt _) hd hw
   obtain⟨k,hk,h⟩:=zza.1 h;obtain⟨us,hus,h⟩:=zza.1 h;split at h
   ·rename_i hc;cases h;obtain⟨hc1,hc2,hc3⟩:=hc;obtain⟨v,E,rfl,hfl,hr,hlen,hlb,hE⟩:=qxc (k:=k) (c:=us.length) (Pe:=λee=>∃cs,mkD k cs=some ee/\qaD us cs) hu hd hc1 hc2 hc3 hw (λn' cs' x' _ hd' hw'=>⟨us,rfl,ih hd' hw' hus,λxs ee h1 h2=>⟨xs,h1,h2⟩⟩);refine⟨⟨hfl,_,?_,hr⟩,trivial⟩;rw[Has];exact⟨E,rfl,hlen,hlb,hE⟩
   ·cases h
  ·rename_i fs hu;obtain⟨xs,m,-,hxe,hl,hl2,hx⟩:=DataW.trod_struct hu hd;rw[hxe]at hw;have:=qrX (P:=P) (w:=w) (rec:=qhB P n) hl fs.toList 0 ts (zzK _) h (λf hf ts' hts=>by
    obtain⟨i,hi,rfl⟩:=zzO hf;have hi':i<fs.size:=by simpa using hi
    have:=hx i fs[i] (by simp[hi']);rw[zze (by omega)]at this;simpa using ih this (by have:=qDe hu hw i hi' (by simp;omega);simpa using this) hts)
   simpa using this
  ·rename_i m e hu;obtain⟨us,hus,h⟩:=zza.1 h;split at h
   ·rename_i hc;cases h;obtain⟨xs,m',-,hxe,hl,hl2,hx⟩:=DataW.trod_array hu hd;rw[hxe]at hw;have:=qxb (w:=w) (cs:=cs) hc.1 m 0 (by rw[hl,hc.2];simp) (λj _ hj=>by
     have:=hx j (by omega);rw[zze (by omega)]at this;exact ih this (qSd hu hw _ (zzN.2 ⟨_,zzs _,rfl⟩)) hus)
    simpa using this
   ·cases h
  ·cases h
end
end
section
open Go.RowKit
section
variable {P:CV}{W:CU}
def qzV{n:String}{d:DataW Unit}:∀{l:CL (String×DataW Unit)} {ps:CL MemPlace},DataW.LaidVars P W l ps->(n,d)∈l->
  ∃g t cs fuel p,P.globalNamed n=some g/\(P.globals[g]?).map (·.type)=some t/\W.var? P n=some cs/\DataW.trod (λ_=>()) P W 0 (λ_=>true) false fuel t cs.toList=some (d,p)/\∀x∈MemPlace.row ⟨g,0,none⟩ cs.size,x∈ps
 |[],_,_,h=>by cases h
 | (m,e)::r,ps,h,hm=>by
  obtain⟨g,t,cs,fuel,p,q,h1,h2,h3,h4,h5,rfl⟩:=h;rcases List.mem_cons.1 hm with h|h
  ·cases h;exact⟨g,t,cs,fuel,p,h1,h2,h3,h4,λx hx=>List.mem_append_left _ (List.mem_append_left _ hx)⟩
  ·obtain⟨g',t',cs',fuel',p',a1,a2,a3,a4,a5⟩:=qzV h5 h;exact⟨g',t',cs',fuel',p',a1,a2,a3,a4,λx hx=>List.mem_append_right _ (a5 x hx)⟩
def qzW{laid:CL (String×DataW Unit)}(h:laidMet P laid W){n:String}{d:DataW Unit}(hm:(n,d)∈laid){g:Nat}(hg:P.globalNamed n=some g){t:CQ}(ht:(P.globals[g]?).map (·.type)=some t) :
  ∃(cs:Array CP) (fuel:Nat) (p:CL MemPlace),DataW.trod (λ_=>()) P W 0 (λ_=>true) false fuel t cs.toList=some (d,p)/\(0<cs.size->∃e,W.shape? g=some (e,cs.size))/\∀j (hj:j<cs.size),W.cell? ⟨g,j,none⟩=some cs[j]:=by
 obtain⟨ps,h1,-,h3⟩:=h;obtain⟨g',t',cs,fuel,p,a1,a2,a3,a4,a5⟩:=qzV h1 hm;obtain rfl:=Option.some.inj (hg.symm.trans a1);obtain rfl:=Option.some.inj (ht.symm.trans a2);have hheap:∃e fz,W.heap[g]? = some (.cells cs e fz):=by
  unfold World.var? at a3;rw[hg]at a3;simp only[Option.bind_some]at a3;split at a3
  ·rename_i cs' e fz hw;cases a3;exact⟨e,fz,hw⟩
  ·cases a3
 obtain⟨e,fz,hw⟩:=hheap;refine⟨cs,fuel,p,a4,?_,?_⟩
 ·intro hp;obtain⟨⟨c,u,hc⟩,-⟩:=h3 g 0 (a5 _ (by unfold MemPlace.row;exact zzN.2 ⟨0,List.mem_range.2 hp,rfl⟩));rw[hw]at hc;cases hc;exact⟨e,by simp[World.shape?,hw]⟩
 ·intro j hj;simp[World.cell?,hw,hj]
def qGv{S:qad}(hS:S=Live W){g:Nat}{zs:CL (IntKind×Int)}(hz:0<zs.length){cs:Array CP}(hl:cs.toList=zs.map λz=>Value.int z.1 z.2)(hs:0<cs.size->∃e,W.shape? g=some (e,cs.size))(hc:∀j (hj:j<cs.size),W.cell? ⟨g,j,none⟩=some cs[j]) :
  (∃e,W.shape? g=some (e,zs.length))/\∃f,At W S g 0 zs.length f/\Al W S (.a (zs.map λz=>.i z.1 z.2)) (mkV (some zs.length) f):=by
 subst hS;have hn:cs.size=zs.length:=by rw[<-Array.length_toList,hl,zzo]
 have hget:∀j (hj:j<zs.length),cs[j]'(by omega)=.int zs[j].1 zs[j].2:=λj hj=>by have h1:cs.toList[j]'(by rw[Array.length_toList];omega)=cs[j]'(by omega):=Array.getElem_toList _;rw[<-h1];simp only[hl,List.getElem_map]
 refine⟨?_,λj=>cs.getD j (.bool false),?_,?_⟩
 ·obtain⟨e,he⟩:=hs (by omega);exact⟨e,by rw[he,hn]⟩
 ·intro j hj;have h1:=hc j (by omega);have h2:cs.getD j (.bool false)=cs[j]'(by omega):=by simp[Array.getD,show j<cs.size by omega]
  refine⟨by rw[Nat.zero_add];show _=some (cs.getD j (.bool false));rw[h2];exact h1,⟨_,by rw[Nat.zero_add];exact h1⟩,?_⟩;show flat (cs.getD j (.bool false));rw[h2,hget j hj];rfl
 ·simp only[mkV];refine Al.a _ _ (by simp) ?_ ?_
  ·intro v hv;obtain⟨j,hj,rfl⟩:=zzN.1 hv;have hj:=List.mem_range.1 hj;have h2:cs.getD j (.bool false)=cs[j]'(by omega):=by simp[Array.getD,show j<cs.size by omega]
   show flat (cs.getD j (.bool false));rw[h2,hget j hj];rfl
  ·intro j hj hj';simp only[zzo]at hj;simp only[List.getElem_map,List.getElem_range];have h2:cs.getD j (.bool false)=cs[j]'(by omega):=by simp[Array.getD,show j<cs.size by omega]
   rw[h2,hget j hj];exact .i _ _
def qys{laid:CL (String×DataW Unit)}(h:laidMet P laid W){n:String}{k:IntKind}{zs:CE}(hm:(n,.agg (zs.map λz=>.lit (.int k z)))∈laid){g:Nat}(hg:P.globalNamed n=some g){t:CQ}(ht:(P.globals[g]?).map (·.type)=some t)
  {m:Nat} {e:CQ} (hu:P.underlying t=some (.array m e)) (he:P.underlying e=some (.int k)) (hc:P.cellsOf e=1) (hct:P.cellsOf t=m) (hz:0<zs.length) :
  (∃e,W.shape? g=some (e,zs.length))/\∃f,At W (Live W) g 0 zs.length f/\Al W (Live W) (.a (zs.map λz=>.i k z)) (mkV (some zs.length) f):=by
 obtain⟨cs,fuel,p,h1,h2,h3⟩:=qzW h hm hg ht;obtain⟨xs,m',rfl,hx,hl,hxl,hel⟩:=DataW.trod_array hu h1;simp only[zzc,DataW.agg.injEq]at hx;have hzl:zs.length=m:=by have:=congrArg List.length hx.1;simp only[zzo]at this;omega
 have hcs:cs.toList=(zs.map λz=>(k,z)).map λz=>Value.int z.1 z.2:=by
  apply List.ext_getElem
  ·simp only[zzo];rw[hl,hct,hzl]
  ·intro j hj hj';simp only[zzo]at hj';have hjm:j<m:=by omega
   have h4:=hel j hjm;rw[hc,Nat.mul_one,zze (by omega)]at h4;obtain⟨n',e1,e2,-⟩:=DataW.trod_int he h4;have e3:cs.toList[j]=.int k n':=by
    have:(cs.toList.drop j).take 1=[cs.toList[j]]:=by rw[zzz hj];rfl
    rw[this]at e1;exact (List.cons.inj e1).1
   rw[e3];have e4:(xs.map (·.1))[j]'(by simp;omega)=.lit (.int k n'):=by simp only[List.getElem_map];rw[e2]
   have e5:(zs.map λz=>(DataW.lit (.int k z):DataW Unit))[j]'(by simp;omega)=.lit (.int k n'):=by rw[<-e4];congr 1;exact hx.1
   simp only[List.getElem_map]at e5;have e6:zs[j]=n':=by simpa using e5
   simp only[List.getElem_map];rw[e6]
 have:=qGv (W:=W) rfl (g:=g) (zs:=zs.map λz=>(k,z)) (by simpa using hz) hcs h2 h3;simpa only[zzo,List.map_map,Function.comp_def]using this
noncomputable def qph(gl:CL (Nat×Nat))(g:Nat):Nat:=qb0 (λx=>x) (g+100) gl g
def qGw{f:FuncId->CK (Nat×Nat)}{gl:CL (Nat×Nat)}{gs:CL (Nat×DV×K)}{S:qad}(hlow:(gs.all λx=>Nat.blt x.1 100)=true)
  (h:∀x∈gl,∀v k,qb0 some none gs x.2=some (v,k)->(∃e,W.shape? x.1=some (e,k.size))/\∃c,At W S x.1 0 k.size c/\Al W S v (mkV k c)):GOK ⟨f,qph gl⟩ (qb0 some none gs) W S:=by
 intro g v k hg;change qb0 some none gs (qph gl g)=_ at hg;unfold qph at hg;rcases qh8 (f:=λx=>x) (z:=g+100) (l:=gl) (n:=g)with h1|⟨x,h1,h2⟩
 ·exfalso;rw[h1]at hg;rcases qh8 (f:=some) (z:=none) (l:=gs) (n:=g+100)with h3|⟨y,h3,-⟩
  ·rw[h3]at hg;cases hg
  ·have:=List.all_eq_true.1 hlow _ h3;have:=Nat.le_of_ble_eq_true this;omega
 ·rw[h2]at hg;exact h (g,x) h1 v k hg
