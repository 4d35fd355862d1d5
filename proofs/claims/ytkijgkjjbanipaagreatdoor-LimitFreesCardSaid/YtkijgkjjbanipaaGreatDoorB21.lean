/- Part 21 of the proof: CbN3, CbN4, CbXc, CbGe, CbO1, CbO0, CbXd, CbXh, CbXf. -/
import Derived.Test.YtkijgkjjbanipaaGreatDoorB19
import Derived.Test.YtkijgkjjbanipaaGreatDoorB20
import Derived.Test.YtkijgkjjbanipaaGreatDoorB2
section
open Go.Sim
attribute [local simp ↓] qeK qda qe3 qej qd4 qd3 qeP qde sqK blK lpK qdp qd1 qdh qdS qe4 qd6 qdV qd8 qdt qe0 qdc qdw qem qdH qes qer qdf qeD qea qeq qd2 qdU qeZ qdn qeL qeG qep qdi qc7 qeS qd7 qe5 qc9 qd9 qex qek qd5 qco qcE qdC qdX qdM qcV qdN qc8 qcU qeA qdr qds qec qei qc4 qeO qc5 qeV qdk qef qed qeH qdW qdy qdb qdZ qe1 qeE qc0 qcY qet qcZ qcx qdu qcQ qcW qdx qcs qeU qeC qev qd0 qeX qeg qdQ qeu qdv qdJ qdK qeJ qeR qdY qeI qfo qfH qfA qfV qfE qfS qfC qfD qfx qfO qfP qfJ qgB qfc
attribute [local simp] qcA qdm qdI qeo qey qdq qdG qdF qdL qeb qdB rd IOp.adds qap gh nid rgK rdS qeF qdO qeB qee qdR qdP qe7 qdE qeN qew qeY qeT qeh qeM qeQ qe6 qez qdz qe2 qel qdo qfl qfs qfm qfa qft qfd qfr qfG qfW qfB qfF
section
namespace Go.Sim
set_option maxRecDepth 10000
set_option maxHeartbeats 4000000
abbrev HI (T:Tab):Prop:=∀args H,T.ref 264 args H=qiF (K1 3) 32 args H
theorem qyl (k:IntKind) (n:Int):DV.cells (.i k n)=[.i k n]:=rfl
theorem qFS (T:Tab) (hN:HN T) (x:ALeg) (w:DV) :
  T.ref 262 [.d (.l (K1 3) [] true),.d x.dv,.f 263 []] [some (.box (K1 3) (.d w))]=some (.t [.d (I 0),.d (.b false)],[some (.box (K1 3) (.d w))]):=by
 rw[qcz T (hN 262 qih rfl) rfl];have hH:Cl [some (.box (K1 3) (.d w))]:=fun r h=>by simp[qab,qaf,Obj.refs,PV.refs] at h
 have hgc : ∀J,gcV 1 (.t [.d (I 0),.d (.b false)]) (some (.box (K1 3) (.d w))::J)=(.t [.d (I 0),.d (.b false)],[some (.box (K1 3) (.d w))]):=fun J=>qf7 hH (by simp[PV.refs,PV.refsL])
 simp[qih,Fr.ofArgs];rw[qlD];simp[gc,Fr.keep,qad,qac,qab,PV.refs,PV.refsL,qag,gcH,qaf,Obj.refs,PV.ren,PV.renL,Obj.ren,Heap.obj,Fr.ren,gh,zzd];simp[qlq,↓qa5,↓qa8,↓qaW,↓qbd,↓qaY,qaZ,↓qa1,↓qbh,↓qa2,↓qa3,↓qbf,qaM,writeS,touchS,qam,qax,chg,qaK,qaB,qat,qaE,PV.refs,PV.refsL,IOp.okD,Nat.testBit,qb2];exact hgc _
theorem qAm (T:Tab) (hN:HN T) (hI:HI T) (l:List ALeg) (t:Bool) (hn:l.length<1000000) {k:KC (PV×Bool)} {fr:Fr} {H:Heap}
  (h0:gc [0,9,10,11] 0 ⟨fr,H⟩=⟨[(11,.d (I 0)),(10,.d (I l.length)),(9,.d (.l (K1 3) (l.map ALeg.dv) t)),(0,.d (.l (K1 3) [] true))],[]⟩) :
  kC T.env 0 fr H (.h (.loop [0,9,10,11] qiA,k))=k (.exit 0) [(12,.d (.b false)),(11,.d (I l.length)),(10,.d (I l.length)),(9,.d (.l (K1 3) (l.map ALeg.dv) t)),(0,qav (K1 3) ((l.foldl qbR []).map ALeg.dv))] (qbN (K1 3) ((l.foldl qbR []).map ALeg.dv)):=by
 rw[qb1 l (fun i (g:List ALeg)=>⟨[(11,.d (I i)),(10,.d (I l.length)),(9,.d (.l (K1 3) (l.map ALeg.dv) t)),(0,qav (K1 3) (g.map ALeg.dv))],qbN (K1 3) (g.map ALeg.dv)⟩) (fun i g=>Srt g∧g.length≤i) (fun _ g x c=>c (qbR g x)) (fun g=>k (.exit 0) [(12,.d (.b false)),(11,.d (I l.length)),(10,.d (I l.length)),(9,.d (.l (K1 3) (l.map ALeg.dv) t)),(0,qav (K1 3) (g.map ALeg.dv))] (qbN (K1 3) (g.map ALeg.dv))) ?_ ?_ (b0:=[]) h0 ⟨List.Pairwise.nil,zzt _⟩]
 ·rw[qfQ (fun _ g x=>qbR g x) _ _ (fun _ _ _ _=>rfl)]
  have : ∀(l:List ALeg) (i:Nat) (g:List ALeg),qaj (fun _ g x=>qbR g x) i g l=l.foldl qbR g:=by
   intro l;induction l with
   |nil=>intro _ _;rfl
   |cons x l ih=>intro i g;rw[qaj,ih,List.foldl_cons]
  rw[this]
 ·intro B _ g _;cases g with
  |nil=>simp[qiA,qav,qbN]
  |cons y g=>simp[qiA,qav,qbN]
 ·intro B _ i g hi hg c hc;have h1:(i:Int)<l.length:=by omega
  have h3:=wr1 (i:=i) (by omega)
  have hg':Srt (qbR g l[i])∧(qbR g l[i]).length≤i+1:=⟨qrI _ hg.1,Nat.le_trans (qoy _ _) (by omega)⟩
  have hc':=fun fr H=>hc (qbR g l[i]) fr H hg'
  clear hc
  generalize hx:l[i]=x at *
  cases g with
  |nil =>
   have e:=qFS T hN x x.dv
   have hz:qbR [] x=[x]:=rfl
   rw[hz] at hc'⊢;simp[qiA,qav,qbN,h1,hi,h3,hx,e,hI,qiF,qbO];exact hc' _ _ (by simp[gc,Fr.keep,qad,qac,qab,PV.refs,qag,gcH,qaf,Obj.refs,PV.ren,Obj.ren,Heap.obj,Fr.ren,gh,zzd,qav,qbN])
  |cons y g =>
   obtain⟨gl,hgl⟩ : ∃gl,y::g=gl:=⟨_,rfl⟩;have hov:qav (K1 3) (List.map ALeg.dv (y::g)) = .r 0 (K1 3) 0 gl.length false:=by subst hgl;simp[qav]
   have hoo:qbN (K1 3) (List.map ALeg.dv (y::g))=[some (.sl (K1 3) 0 (gl.map ALeg.dv))]:=by subst hgl;simp[qbN]
   have hov' : ∀m,m≠[]→qav (K1 3) (List.map ALeg.dv m) = .r 0 (K1 3) 0 m.length false:=fun m hm=>by
    cases m with
    |nil=>exact absurd rfl hm
    |cons a b=>simp[qav]
   have hoo' : ∀m,m≠[]→qbN (K1 3) (List.map ALeg.dv m)=[some (.sl (K1 3) 0 (m.map ALeg.dv))]:=fun m hm=>by
    cases m with
    |nil=>exact absurd rfl hm
    |cons a b=>simp[qbN]
   simp only[hov,hoo];simp only[hgl] at hg hg' hc'⊢;rw[hov' _ (qvg gl x),hoo' _ (qvg gl x)] at hc';clear hov hoo hov' hoo' hgl
   have hlen:gl.length<1000000:=by omega
   have e:=qzS T hN gl hg.1 x x.dv false hlen
   cases hf:fnd gl x with
   |true =>
    rw[hf] at e;have hp:plc gl x<gl.length:=by
     unfold fnd at hf;split at hf
     ·rename_i h;exact (zzk.1 h).1
     ·cases hf
    have hl:ltL x gl[plc gl x]=false:=by
     rw[fnd,zze hp] at hf;simpa using hf
    rw[qr2 gl x hp hl] at hc'⊢;generalize plc gl x=p at *
    have g3:(p:Int)<gl.length:=by omega
    have hm : ∀n,mkD (some 3) (putAt gl[p].dv.cells 1 [.i .i64 n])=some (ALeg.dv ⟨gl[p].Account,n,gl[p].Currency⟩):=fun _=>rfl
    simp[qiA,h1,hi,h3,hx,e,hp,g3,↓qa5,↓qa8,↓qaW,↓qbj,↓qaY,qaZ,↓qa1,↓qa2,↓qbk,↓qa3,↓qa7,↓qbf,qaM,writeS,touchS,qam,qax,chg,qaK,qaB,qat,qaE,PV.refs,IOp.okD,Nat.testBit,↓qgT,-qcs,↓qjX,↓qnf,↓qle,↓qsb,qay,hm,qyl];refine hc' _ _ ?_;rw[show ∀v:ALeg,(gl.map ALeg.dv).set p v.dv=(gl.set p v).map ALeg.dv from fun v=>List.map_set.symm]
    simp[gc,Fr.keep,qad,qac,qab,PV.refs,qag,gcH,qaf,Obj.refs,PV.ren,Obj.ren,Heap.obj,Fr.ren,gh,zzd,qok,w64]
   |false =>
    rw[hf] at e;have hl : ∀h:plc gl x<gl.length,ltL x gl[plc gl x]=true:=fun h=>by
     rw[fnd,zze h] at hf;simpa using hf
    have hpl:=qro gl x
    rw[qrg gl x hl] at hc'⊢;generalize plc gl x=p at *
    have g3:(p:Int)≤gl.length:=by omega
    have g4:(gl.length+1)*32≤140737488355328:=by omega
    have g5:(gl.map ALeg.dv).take gl.length=gl.map ALeg.dv:=List.take_of_length_le (by simp)
    have g6:Nat.beq 0 2=false:=rfl
    simp[qiA,h1,hi,h3,hx,e,hI,qiF,qbO,g3,g4,g5,g6];refine hc' _ _ ?_;simp[gc,Fr.keep,qad,qac,qab,PV.refs,qag,gcH,qaf,Obj.refs,PV.ren,Obj.ren,Heap.obj,Fr.ren,gh,zzd];omega
theorem qF8 (T:Tab) (hN:HN T) (hI:HI T) (l:List ALeg) (t:Bool) (hn:l.length<1000000):T.val 179 [.l (K1 3) [] true,.l (K1 3) (l.map ALeg.dv) t]=some (.d (.l (K1 3) ((l.foldl qbR []).map ALeg.dv) false),true):=by
 rw[qae T (hN 179 qjP rfl) rfl];have lp:=fun k fr H => @qAm T hN hI l t hn k fr H
 simp[qjP,Fr.ofArgs];refine (lp _ _ _ (by simp[gc,Fr.keep,qad,qac,qab,PV.refs,gcH,PV.ren,Obj.ren,Heap.obj,Fr.ren,gh])).trans ?_
 generalize l.foldl qbR []=g;cases g with
 |nil=>simp[qav,qbN]
 |cons x g =>
  have ht:(g.map ALeg.dv).take g.length=g.map ALeg.dv:=List.take_of_length_le (by simp)
  simp[qav,qbN,ht]
theorem qrC (T:Tab) (hN:HN T) (x:ALeg):T.val 181 [x.dv]=some (.d (.b (x.Amount==0)),false):=by
 rw[qae T (hN 181 qkz rfl) rfl];simp[qkz,Fr.ofArgs]
def isZ (x:ALeg):Bool:=x.Amount==0
theorem qAk (T:Tab) (hN:HN T) (l:List ALeg) (hn:l.length≤maxLen) {k:KC (PV×Heap)} {r:Nat→Option (PV×Heap)} {fr:Fr} {H:Heap}
  (hr : ∀(j:Nat) fr J,fr.get 4 = .d (I j)→qau fr=[]→k .ret fr ([some (.sl (K1 3) 0 (l.map ALeg.dv))]++J)=r j)
  (h0:gc [0,1,7,8] 1 ⟨fr,H⟩=⟨[(8,.d (I 0)),(7,.d (I l.length)),(1,.f 181 []),(0,.r 0 (K1 3) 0 l.length false)],[some (.sl (K1 3) 0 (l.map ALeg.dv))]⟩) :
  kC T.env 1 fr H (.h (.loop [0,1,7,8] (qhV (K1 3)),k))=match l.findIdx? isZ with|some j=>r j|none=>k (.exit 0) [(9,.d (.b false)),(8,.d (I l.length)),(7,.d (I l.length)),(1,.f 181 []),(0,.r 0 (K1 3) 0 l.length false)] [some (.sl (K1 3) 0 (l.map ALeg.dv))]:=by
 rw[qb1 l (fun i _=>⟨[(8,.d (I i)),(7,.d (I l.length)),(1,.f 181 []),(0,.r 0 (K1 3) 0 l.length false)],[some (.sl (K1 3) 0 (l.map ALeg.dv))]⟩) (fun _ _=>True) (fun i _ x c=>if isZ x=true then r i else c ()) (fun _=>k (.exit 0) [(9,.d (.b false)),(8,.d (I l.length)),(7,.d (I l.length)),(1,.f 181 []),(0,.r 0 (K1 3) 0 l.length false)] [some (.sl (K1 3) 0 (l.map ALeg.dv))]) ?_ ?_ h0 trivial]
 ·rw[qpa isZ r _ _ (fun _ _ _ _=>rfl)]
  simp only[Nat.zero_add];try (cases l.findIdx? isZ<;>rfl)
 ·intro B _ _ _;simp[qhV]
 ·intro B _ i _ hi _ cc hcc;have hm:=mxl
  have h1:(i:Int)<l.length:=by omega
  have h3:=wr1 (i:=i) (by omega)
  have he:=qrC T hN l[i]
  simp[qhV,h1,hi,he,↓qgT,↓qgL,qal];refine qa9 (fun h => ?_) (fun h => ?_)
  ·rw[if_pos (show isZ l[i]=true from h)]
   simp;simpa using hr i _ [] (by simp[Fr.get]) (by simp[qau,gh])
  ·rw[if_neg (by rw[isZ,h];decide)]
   simp[h3];exact hcc () _ _ trivial (by simp[gc,Fr.keep,qad,qac,qab,PV.refs,PV.refsL,qag,gcH,qaf,Obj.refs,PV.ren,PV.renL,Obj.ren,Heap.obj,Fr.ren,gh])
theorem qzC (T:Tab) (hN:HN T) (l:List ALeg) (hn:l.length≤maxLen):T.ref 265 [.r 0 (K1 3) 0 l.length false,.f 181 []] [some (.sl (K1 3) 0 (l.map ALeg.dv))]=some (.d (I (qg2 isZ l)),[some (.sl (K1 3) 0 (l.map ALeg.dv))]):=by
 rw[qcz T (hN 265 qiu rfl) rfl];have hH:Cl [some (.sl (K1 3) 0 (l.map ALeg.dv))]:=fun r h=>by simp[qab,qaf,Obj.refs] at h
 have lp:=fun k r fr H => @qAk T hN l hn k r fr H
 have hg : ∀v J,gcV 1 (.d v) (some (.sl (K1 3) 0 (l.map ALeg.dv))::J)=(.d v,[some (.sl (K1 3) 0 (l.map ALeg.dv))]):=fun v J=>qgd hH J v
 simp[qiu,qhb,Fr.ofArgs];refine (lp _ (fun j=>some (.d (I j),[some (.sl (K1 3) 0 (l.map ALeg.dv))])) _ _ ?_ (by simp[gc,Fr.keep,qad,qac,qab,PV.refs,PV.refsL,qag,gcH,qaf,Obj.refs,PV.ren,PV.renL,Obj.ren,Heap.obj,Fr.ren,gh])).trans ?_
 ·intro j fr J h1 h2;simp[h1,h2,qb2,hg]
 ·unfold qg2;cases l.findIdx? isZ with
  |some j=>rfl
  |none=>simp[qb2,hg]
end Go.Sim
end
section
namespace Go.Sim
set_option maxRecDepth 10000
set_option maxHeartbeats 4000000
def qce (x:ALeg):Bool:=x.Amount != 0
structure DelI (l:List ALeg) (j i:Nat) (e:List ALeg):Prop where
 len:e.length=l.length
 ij:i≤j
 jn:j≤l.length
 pre:e.take i=(l.take j).filter qce
 suf:e.drop j=l.drop j
theorem DelI.getJ {l:List ALeg} {j i:Nat} {e:List ALeg} (h:DelI l j i e) (hj:j<l.length):e[j]? = some l[j]:=by
 have:=congrArg (fun x=>x[0]?) h.suf
 simp only[List.getElem?_drop,Nat.add_zero] at this;rw[this,zze hj]
theorem DelI.skip {l:List ALeg} {j i:Nat} {e:List ALeg} (h:DelI l j i e) (hj:j<l.length) (hz:qce l[j]=false):DelI l (j+1) i e where
 len:=h.len
 ij:=by have:=h.ij;omega
 jn:=hj
 pre:=by rw[List.take_succ_eq_append_getElem hj,List.filter_append,h.pre];simp[hz]
 suf:=by rw[←List.drop_drop,h.suf,List.drop_drop]
theorem DelI.keep {l:List ALeg} {j i:Nat} {e:List ALeg} (h:DelI l j i e) (hj:j<l.length) (hz:qce l[j]=true):DelI l (j+1) (i+1) (e.set i l[j]) where
 len:=by simp[h.len]
 ij:=by have:=h.ij;omega
 jn:=hj
 pre:=by
  have h1:=h.ij
  have h2:=h.len
  rw[List.take_succ_eq_append_getElem hj,List.filter_append,←h.pre];rw[List.take_succ_eq_append_getElem (by simp;omega)]
  simp[hz,List.take_set_of_le]
 suf:=by
  have h1:=h.ij
  rw[List.drop_set_of_lt (by omega),←List.drop_drop,h.suf,List.drop_drop]
theorem qz3 (T:Tab) (hN:HN T) (l:List ALeg) (hn:l.length<1000000) {k:KC (PV×Heap)} {r:Option (PV×Heap)} {fr:Fr} {H:Heap} (j0 i0:Nat) (e0:List ALeg) (hI:DelI l j0 i0 e0)
  (hr : ∀(i:Nat) (e:List ALeg),DelI l l.length i e→k (.exit 0) [(19,.d (.b false)),(6,.d (I l.length)),(5,.d (I i)),(1,.f 181 []),(0,.r 0 (K1 3) 0 l.length false)] [some (.sl (K1 3) 0 (e.map ALeg.dv))]=r)
  (h0:gc [0,1,5,6] 1 ⟨fr,H⟩=⟨[(6,.d (I j0)),(5,.d (I i0)),(1,.f 181 []),(0,.r 0 (K1 3) 0 l.length false)],[some (.sl (K1 3) 0 (e0.map ALeg.dv))]⟩) :
  kC T.env 1 fr H (.h (.loop [0,1,5,6] ql5,k))=r:=by
 refine qfT (fun s:Nat×Nat×List ALeg=>⟨[(6,.d (I s.1)),(5,.d (I s.2.1)),(1,.f 181 []),(0,.r 0 (K1 3) 0 l.length false)],[some (.sl (K1 3) 0 (s.2.2.map ALeg.dv))]⟩) (fun s=>DelI l s.1 s.2.1 s.2.2) (fun s=>l.length-s.1) ?_ (j0,i0,e0) hI h0
 rintro B-⟨j,i,e⟩ hI hx;simp only at hI hx⊢;have hx':=fun (s':Nat×Nat×List ALeg)=>hx s'
 clear hx
 have hel:=hI.len
 have hij:=hI.ij
 by_cases hj:j<l.length
 ·have g1:(j:Int)<l.length:=by omega
  have hgj:=hI.getJ hj
  have g2:(i:Int)<l.length:=by omega
  have g3:i<l.length:=by omega
  have w1:IntKind.i64.wrap ((j:Int)+1)=(j:Int)+1:=wrI (by omega) (by omega)
  have w2:IntKind.i64.wrap ((i:Int)+1)=(i:Int)+1:=wrI (by omega) (by omega)
  have he:=qrC T hN l[j]
  have hk:=hI.keep hj
  have hs:=hI.skip hj
  have hq:(l[j].Amount==0) = !qce l[j]:=by simp[qce,bne]
  rw[hq] at he;have hje:j<e.length:=by omega
  have hx:l[j]=e[j]:=by rw[zze hje] at hgj;exact (Option.some.inj hgj).symm
  simp only[hx] at he hk hs;clear hgj hx hq
  have g4:i<e.length:=by omega
  simp[ql5,hj,g1,he,hel,↓qgT,↓qgL,qal,-qcs,↓qjX,↓qnf];refine qa9 (fun h => ?_) (fun h => ?_)
  ·simp[w1,w2,g2,g3,hel,↓qgT,-qcs,↓qjX,↓qle];refine hx' (j+1,i+1,e.set i e[j]) (hk h) (by simp only;omega) _ _ ?_
   rw[show ∀v:ALeg,(e.map ALeg.dv).set i v.dv=(e.set i v).map ALeg.dv from fun v=>List.map_set.symm]
   simp[gc,Fr.keep,qad,qac,qab,PV.refs,PV.refsL,qag,gcH,qaf,Obj.refs,PV.ren,PV.renL,Obj.ren,Heap.obj,Fr.ren,gh]
  ·simp[w1];exact hx' (j+1,i,e) (hs h) (by simp only;omega) _ _ (by simp[gc,Fr.keep,qad,qac,qab,PV.refs,PV.refsL,qag,gcH,qaf,Obj.refs,PV.ren,PV.renL,Obj.ren,Heap.obj,Fr.ren,gh])
 ·have hj':j=l.length:=by have:=hI.jn;omega
  subst hj';simp[ql5,hel,hr i e hI]
theorem DelI.start {l:List ALeg} {p:Nat} (h:l.findIdx? isZ=some p):DelI l (p+1) p l:=by
 obtain⟨hp,h1,h2⟩:=List.findIdx?_eq_some_iff_getElem.1 h;refine⟨rfl,by omega,hp,?_,rfl⟩
 have hz:qce l[p]=false:=by simpa[qce,isZ] using h1
 rw[List.take_succ_eq_append_getElem hp,List.filter_append];simp only[List.filter_cons,hz,zzg,if_false,List.filter_nil,List.append_nil];symm
 rw[List.filter_eq_self];intro x hx;obtain⟨i,hi,rfl⟩:=List.getElem_of_mem hx;rw[List.getElem_take]
 have:=h2 i (by rw[List.length_take] at hi;omega)
 simpa[qce,isZ] using this
theorem qv7 (T:Tab) (hN:HN T) (l:List ALeg) (hn:l.length<1000000) : ∃es:List DV,es.take (l.filter qce).length=(l.filter qce).map ALeg.dv∧(l.filter qce).length≤es.length∧T.ref 180 [.r 0 (K1 3) 0 l.length false,.f 181 []] [some (.sl (K1 3) 0 (l.map ALeg.dv))]=some (.r 0 (K1 3) 0 (l.filter qce).length false,[some (.sl (K1 3) 0 es)]):=by
 have hm:=mxl
 have e1:=qzC T hN l (by omega)
 have hH : ∀es:List DV,Cl [some (.sl (K1 3) 0 es)]:=fun es r h=>by simp[qab,qaf,Obj.refs] at h
 have hgc : ∀(es:List DV) off len J,gcV 1 (.r 0 (K1 3) off len false) (some (.sl (K1 3) 0 es)::J)=(.r 0 (K1 3) off len false,[some (.sl (K1 3) 0 es)]):=fun es off len J=>qf7 (hH es) (by simp[PV.refs])
 rw[qcz T (hN 180 qjq rfl) rfl];unfold qg2 at e1;cases hf:l.findIdx? isZ with
 |none =>
  rw[hf] at e1;have hall:l.filter qce=l:=by
   rw[List.filter_eq_self];intro x hx
   have:=List.findIdx?_eq_none_iff.1 hf x hx
   simpa[qce,isZ] using this
  refine⟨l.map ALeg.dv,by rw[hall];exact List.take_of_length_le (by simp),by rw[hall];simp,?_⟩
  rw[hall];simp[qjq,Fr.ofArgs,e1,qb2,hgc]
 |some p =>
  rw[hf] at e1;have hp:p<l.length:=(List.findIdx?_eq_some_iff_findIdx_eq.1 hf).1
  have w1:IntKind.i64.wrap ((p:Int)+1)=(p:Int)+1:=wrI (by omega) (by omega)
  have g0:((p:Int) == -1)=false:=by simp
  have hml:(l.filter qce).length≤l.length:=List.length_filter_le _ _
  refine⟨(l.filter qce).map ALeg.dv++List.replicate (l.length-(l.filter qce).length) (.a [I 0,I 0,.s []]),by rw[List.take_append_of_le_length (by simp)];exact List.take_of_length_le (by simp),by simp,?_⟩
  simp[qjq,Fr.ofArgs,e1,g0,w1];refine qz3 T hN l hn (p+1) p l (DelI.start hf) (fun i e hI => ?_) (by simp[gc,Fr.keep,qad,qac,qab,PV.refs,PV.refsL,qag,gcH,qaf,Obj.refs,PV.ren,PV.renL,Obj.ren,Heap.obj,Fr.ren,gh])
  have hel:=hI.len
  have hi:i=(l.filter qce).length:=by
   have:=congrArg List.length hI.pre
   rw[List.take_of_length_le (zzt l.length),List.length_take] at this
   have:=hI.ij
   omega
  have hpre:=hI.pre
  rw[List.take_of_length_le (zzt l.length)] at hpre;have g1:(i:Int)≤l.length:=by omega
  have g2:i≤l.length:=by omega
  have g3:i+(l.length-i)=l.length:=by omega
  have g4:(putAt (e.map ALeg.dv) i (List.replicate (l.length-i) (.a [I 0,I 0,.s []]))).length=l.length:=by simp[putAt];omega
  have hput:putAt (e.map ALeg.dv) i (List.replicate (l.length-i) (.a [I 0,I 0,.s []]))=(l.filter qce).map ALeg.dv++List.replicate (l.length-(l.filter qce).length) (.a [I 0,I 0,.s []]):=by
   rw[putAt,←List.map_take,hpre,List.length_replicate,List.drop_of_length_le (by simp;omega),List.append_nil,hi]
  rw[←hput,←hi];simp[↓qxl,↓qAJ,↓qE2,g1,g3,g4,hel,qb2,hgc]
theorem qrB (T:Tab) (hN:HN T) (hI:HI T) (l:List ALeg) (t:Bool) (hn:l.length<1000000):T.val 110 [.l (K1 3) (l.map ALeg.dv) t]=some (.d (.l (K1 3) ((qg9 l).map ALeg.dv) false),true):=by
 rw[qae T (hN 110 qj0 rfl) rfl];have e1:=qF8 T hN hI l t hn
 have hl:=qpV l []
 have hd:qg9 l=(l.foldl qbR []).filter qce:=rfl
 rw[hd];generalize l.foldl qbR []=g at *
 obtain⟨es,h1,h2,e2⟩:=qv7 T hN g (by simp at hl;omega)
 simp[qj0,Fr.ofArgs,e1,↓qc7,↓qcZ,e2,h1,h2]
end Go.Sim
end
section
namespace Go.Sim
set_option maxRecDepth 10000
set_option maxHeartbeats 4000000
theorem qAt (T:Tab) (hF:HF5 T) (n:Int):T.val 948 [I n]=some (.d (I n),false):=by
 rw[qae T (hF 948 qj5 rfl) rfl];simp[qj5,Fr.ofArgs]
structure HAll (T:Tab):Prop extends HEv T where
 hQ:HQ T
 hN:HN T
 hI:HI T
 hF:HF5 T
end Go.Sim
end
end
section
namespace Go.Sim
end Go.Sim
end
section
open Go.Sim
attribute [local simp ↓] qeK qda qe3 qej qd4 qd3 qeP qde sqK blK lpK qdp qd1 qdh qdS qe4 qd6 qdV qd8 qdt qe0 qdc qdw qem qdH qes qer qdf qeD qea qeq qd2 qdU qeZ qdn qeL qeG qep qdi qc7 qeS qd7 qe5 qc9 qd9 qex qek qd5 qco qcE qdC qdX qdM qcV qdN qc8 qcU qeA qdr qds qec qei qc4 qeO qc5 qeV qdk qef qed qeH qdW qdy qdb qdZ qe1 qeE qc0 qcY qet qcZ qcx qdu qcQ qcW qdx qcs qeU qeC qev qd0 qeX qeg qdQ qeu qdv qdJ qdK qeJ qeR qdY qeI qfo qfH qfA qfV qfE qfS qfC qfD qfx qfO qfP qfJ qgB qfc
attribute [local simp] qcA qdm qdI qeo qey qdq qdG qdF qdL qeb qdB rd IOp.adds qap gh nid rgK rdS qeF qdO qeB qee qdR qdP qe7 qdE qeN qew qeY qeT qeh qeM qeQ qe6 qez qdz qe2 qel qdo qfl qfs qfm qfa qft qfd qfr qfG qfW qfB qfF
section
namespace Go.Sim
set_option maxRecDepth 10000
end Go.Sim
end
section
namespace Go.Sim
set_option maxRecDepth 10000
section
variable {R : Type} {y : PV → Option R}
theorem qp6 {n c:Nat} {l:List PV}:bo (qfK (some n) (.a l) c none) (.h y)=chk (c<n) (.h (bo l[c]? (.h y))):=by
 unfold chk;simp only[qfK,K.eq,Bool.and_false,zzg,if_false];change bo (@ite _ (c+1≤n) (Nat.decLe _ _) (mkP none ((List.drop c l).take 1)) none) (.h y)=_
 by_cases h:c<n
 ·rw[if_pos h,if_pos (by omega),qnY]
  cases l[c]? <;> rfl
 ·rw[if_neg h,if_neg (by omega)];rfl
theorem qqg (l:List PV):PV.cells (.a l)=l:=rfl
theorem qjd {n:Nat} {l:List PV}:fits (some n) (.a l)=(l.length==n):=rfl
end
end Go.Sim
end
section
namespace Go.Sim
set_option maxRecDepth 10000
set_option maxHeartbeats 4000000
theorem qxU (k k' k2:K) (v w u:DV):Cl [some (.box k (.d v)),some (.box k' (.d w)),some (.box k2 (.d u)),none]:=fun r h=>by simp[qab,qaf,Obj.refs,PV.refs] at h
theorem qjJ (n:Nat) (cs:List PV):PV.cells (.f n cs)=[.f n cs]:=rfl
theorem qqM (n:Nat) (cs vs:List PV):qal (.f n cs::vs)=none:=rfl
def qn5 (w:Int):PV:=if w=2 then .a [.f 948 []] else if w=3 then .a [.f 879 []] else .d (.a [.nf])
def qpr (w:Int):Bool:=decide (w=2)||decide (w=3)
theorem qEP (T:Tab) (hF:HF5 T) (w:Int) (H0:Heap) (hH:Cl H0):T.ref 917 [.d (I w)] H0=some (.t [qn5 w,.d (.b (qpr w))],H0):=by
 rw[qcz T (hF 917 qhj rfl) rfl];unfold qn5 qpr;by_cases h2:w=2
 ·subst h2;simp[qhj,Fr.ofArgs,qh0,qgK,↓qaD,↓qaH,↓qaF,putAt,mkA,qay,qhE,qjJ,qqM,qjd,List.drop_succ_cons,qb2];first|refine (congrArg some (qf7 hH ?_)).trans ?_|refine (qf7 hH ?_).trans ?_
  ·simp[PV.refs,PV.refsL]
  ·rfl
 ·have g2:=qai h2
  by_cases h3:w=3
  ·subst h3;simp[qhj,Fr.ofArgs,qh0,qgK,↓qaD,↓qaH,↓qaF,putAt,mkA,qay,qhE,qjJ,qqM,qjd,List.drop_succ_cons,qb2];first|refine (congrArg some (qf7 hH ?_)).trans ?_|refine (qf7 hH ?_).trans ?_
   ·simp[PV.refs,PV.refsL]
   ·rfl
  ·have g3:=qai h3
   simp[qhj,Fr.ofArgs,h2,g2,h3,g3,qh0,qgK,↓qaD,↓qaH,mkA,qal,qb2];first|refine (congrArg some (qf7 hH ?_)).trans ?_|refine (qf7 hH ?_).trans ?_
   ·simp[PV.refs,PV.refsL]
   ·rfl
theorem qBx (T:Tab) (hV:HV T) (d:Int) (h:qbW d=true) : ∃n:Int,T.val 879 [I d]=some (.d (I n),false):=by
 obtain⟨n,m,hc⟩:=qkm h;exact⟨_,qsd T hV d n m hc⟩
theorem qFL (T:Tab) (h:HAll T) (b:ABooks) (hb:b.ok) (v:AProduct) (hv : ∀r∈v.Rules.l,r.ok) (hl:v.Rules.l.length≤maxLen) (id day amount:Int) : ∃n:Int,T.val 858 [b.dv,v.dv,I id,I day,I amount]=some (.d (I n),false):=by
 have hm:=mxl
 have e801:=qBv T h.hU h.hV b id day amount hb
 apply qnc
 rw[qae T (h.hF 858 qh5 rfl) rfl];by_cases h0:v.Rules.l=[]
 ·simp[qh5,Fr.ofArgs,h0];exact qbM (show IsI _ from⟨_,rfl⟩)
 have l0:v.Rules.l.length≠0:=fun c=>h0 (List.length_eq_zero_iff.1 c)
 have l1:((v.Rules.l.length:Int)==0)=false:=qai (by omega)
 have l2 : ¬((v.Rules.l.length:Int)=0):=by omega
 by_cases he:(qcX b id day amount).2=0
 ·have hd:=qBo he
  rw[he] at e801;have et:=fun x hx te=>qCT T h.toHEv x hx b id day amount te
  obtain⟨mo,e879⟩:=qBx T h.hV day hd;generalize (qcX b id day amount).1.map V2=env at *
  generalize (qcX b id day amount).1.isEmpty=tE at *
  simp[qh5,Fr.ofArgs,l1,e801];refine qjp (fun i:Nat=>⟨[(38,.d (I i)),(37,.d (I v.Rules.l.length)),(36,.d (.l (K1 6) (v.Rules.l.map ARule.dv) v.Rules.t)),(11,.d (.l (K1 2) env tE)),(5,.p 0 0 0),(4,.d (I amount)),(3,.d (I day)),(2,.d (I id))],[some (.box (K1 22) (.d b.dv))]⟩) (fun i=>i≤v.Rules.l.length) (fun i=>v.Rules.l.length-i) ?_ 0 (Nat.zero_le _) (by simp[gc,Fr.keep,qad,qac,qab,PV.refs,qag,gcH,qaf,Obj.refs,PV.ren,Obj.ren,Heap.obj,Fr.ren,gh,zzd])
  rintro B-i hi hx;by_cases hlt:i<v.Rules.l.length
  ·have h1:(i:Int)<v.Rules.l.length:=by omega
   have h3:=wr1 (i:=i) (by omega)
   have hx':=hx (i+1) (by omega) (by omega)
   have hr:=hv v.Rules.l[i] (zzs hlt)
   obtain⟨V,o,⟨q,f⟩,e371,e916⟩:=et v.Rules.l[i].Amount hr.2.2 tE;unfold qbP at e916;simp only at e916;have e917:=qEP T h.hF v.Rules.l[i].Window _ (qxU (K1 22) (K1 6) (K1 2) b.dv v.Rules.l[i].dv q.dv)
   unfold qn5 qpr at e917;have e918:=fun w=>qCx T h.hU b hb id w day
   have e948:=qAt T h.hF day
   by_cases hf:f=0
   ·subst hf;by_cases w2:v.Rules.l[i].Window=2
    ·rw[w2] at e917;simp only[if_true,decide_true,Bool.true_or] at e917;simp[qiQ,h1,hlt,↓qa5,↓qa8,↓qaW,↓qbj,↓qaY,qaZ,↓qa1,↓qbz,↓qa2,↓qbk,↓qa3,↓qa7,↓qbo,↓qby,qaM,writeS,touchS,qam,qax,chg,qaK,qaB,qat,qaE,PV.refs,IOp.okD,Nat.testBit,e371,e916,w2,e917,e918,e948,↓qjC,↓qiI,qal,qjd,↓qp6];repeat' (refine qim (fun h => ?_) (fun h => ?_)<;>(try simp at h)<;>(try simp[h3]))
     all_goals first|exact qbM (show IsI _ from⟨_,rfl⟩)|exact hx' _ _ (by simp[gc,Fr.keep,qad,qac,qab,PV.refs,qag,gcH,qaf,Obj.refs,PV.ren,Obj.ren,Heap.obj,Fr.ren,gh,zzd])
    ·by_cases w3:v.Rules.l[i].Window=3
     ·rw[w3] at e917;simp only[if_true,decide_true,Bool.or_true,show ¬((3:Int)=2) by decide,if_false] at e917
      simp[qiQ,h1,hlt,↓qa5,↓qa8,↓qaW,↓qbj,↓qaY,qaZ,↓qa1,↓qbz,↓qa2,↓qbk,↓qa3,↓qa7,↓qbo,↓qby,qaM,writeS,touchS,qam,qax,chg,qaK,qaB,qat,qaE,PV.refs,IOp.okD,Nat.testBit,e371,e916,w3,e917,e918,e879,↓qjC,↓qiI,qal,qjd,↓qp6];repeat' (refine qim (fun h => ?_) (fun h => ?_)<;>(try simp at h)<;>(try simp[h3]))
      all_goals first|exact qbM (show IsI _ from⟨_,rfl⟩)|exact hx' _ _ (by simp[gc,Fr.keep,qad,qac,qab,PV.refs,qag,gcH,qaf,Obj.refs,PV.ren,Obj.ren,Heap.obj,Fr.ren,gh,zzd])
     ·rw[if_neg w2,if_neg w3,decide_eq_false w2,decide_eq_false w3,Bool.false_or] at e917;simp[qiQ,h1,hlt,↓qa5,↓qa8,↓qaW,↓qbj,↓qaY,qaZ,↓qa1,↓qbz,↓qa2,↓qbk,↓qa7,↓qbo,↓qby,qaM,writeS,touchS,qam,qax,chg,qaK,qaB,qat,qaE,PV.refs,IOp.okD,Nat.testBit,e371,e916,e917];repeat' (refine qim (fun h => ?_) (fun h => ?_)<;>(try simp at h)<;>(try simp[h3]))
      all_goals first|exact qbM (show IsI _ from⟨_,rfl⟩)|exact hx' _ _ (by simp[gc,Fr.keep,qad,qac,qab,PV.refs,qag,gcH,qaf,Obj.refs,PV.ren,Obj.ren,Heap.obj,Fr.ren,gh,zzd])
   ·have gf:=qai hf
    simp[qiQ,h1,hlt,↓qa5,↓qa8,↓qaW,↓qbj,↓qaY,qaZ,↓qa1,↓qbz,↓qa2,↓qbk,↓qa7,↓qbo,↓qby,qaM,writeS,touchS,qam,qax,chg,qaK,qaB,qat,qaE,PV.refs,IOp.okD,Nat.testBit,e371,e916,gf,bne];exact qbM (show IsI _ from⟨_,rfl⟩)
  ·have:i=v.Rules.l.length:=by omega
   subst this;have h1 : ¬((v.Rules.l.length:Int)<v.Rules.l.length):=by omega
   simp[qiQ];exact qbM (show IsI _ from⟨_,rfl⟩)
 ·have ge:=qai he
  simp[qh5,Fr.ofArgs,l1,e801,ge,bne];exact qbM (show IsI _ from⟨_,rfl⟩)
end Go.Sim
end
section
namespace Go.Sim
set_option maxRecDepth 10000
set_option maxHeartbeats 4000000
theorem qtf {b:ABooks} (hb:b.ok) (id day:Int):(∀r∈((qfz b id day).getD .zero).Rules.l,r.ok)∧((qfz b id day).getD .zero).Rules.l.length≤maxLen:=by
 cases hp:qfz b id day with
 |none=>exact⟨fun r hr=>(by cases hr),Nat.zero_le _⟩
 |some p =>
  have hmem:p∈b.Products.l:=by
   unfold qfz at hp;split at hp
   ·exact qy0 hp
   ·cases hp
  have ho:=hb.2.2.2.2.1.2 p hmem
  exact⟨ho.2.2.2.2.2.2.2.2.2.2.2,ho.2.2.2.2.2.2.2.2.2.2.1⟩
theorem qww (T:Tab) (h:HAll T) (b:ABooks) (hb:b.ok) (hbl:b.Blocks.l.length≤100000) (id day amount:Int) : ∃n:Int,T.val 768 [b.dv,I id,I day,I amount]=some (.d (I n),false):=by
 have e634:=qyL T h.hU b id day hb hbl
 have e24:=quZ T h.hU b id day hb
 obtain⟨n,e858⟩:=qFL T h b hb ((qfz b id day).getD .zero) (qtf hb id day).1 (qtf hb id day).2 id day amount;apply qnc
 generalize (qfz b id day).getD .zero=v at *
 generalize (qfz b id day).isSome=s at *
 obtain⟨x,f⟩:=qmO b id day;rw[qae T (h.hF 768 qiK rfl) rfl];simp[qiK,Fr.ofArgs,e634];repeat' (refine qim (fun h => ?_) (fun h => ?_)<;>(try simp at h)<;>(try simp[h,e24,e858]))
 all_goals exact qbM (show IsI _ from⟨_,rfl⟩)
theorem qvD (l:List ALeg):(qg9 l).length≤l.length:=Nat.le_trans (List.length_filter_le _ _) (by have:=qpV l [];simpa using this)
def ql9 (l:List ALeg):Bool := !(l.any fun x=>decide (1000≤x.Account)&&decide (0<x.Amount))
def qiJ (c:Bool) (r:PV×Bool):Prop:=∃k:Int,r=(.d (I k),false)∧(c=true→k=0∨k=11∨k=16∨k=19)
theorem qyV (T:Tab) (h:HAll T) (b:ABooks) (hb:b.ok) (hbl:b.Blocks.l.length≤100000) (e:AEntry) (hl:e.Legs.l.length≤1000) (h0:e.Auth=0):Ans (qiJ (ql9 (qg9 e.Legs.l))) (T.val 674 [b.dv,e.dv]):=by
 have hm:=mxl
 have e110:=qrB T h.hN h.hI e.Legs.l e.Legs.t (by omega)
 have hnl:(qg9 e.Legs.l).length≤1000:=Nat.le_trans (qvD e.Legs.l) hl
 rw[qae T (h.hF 674 qhu rfl) rfl];generalize qg9 e.Legs.l=nl at *
 simp[qhu,Fr.ofArgs,h0,e110];refine qjp (fun i:Nat=>⟨[(17,.d (I i)),(16,.d (I nl.length)),(15,.d (.l (K1 3) (nl.map ALeg.dv) false)),(3,.p 0 0 0),(2,.p 1 0 0)],[some (.box (K1 10) (.d e.dv)),some (.box (K1 22) (.d b.dv))]⟩) (fun i=>i≤nl.length) (fun i=>nl.length-i) ?_ 0 (Nat.zero_le _) (by simp[gc,Fr.keep,qad,qac,qab,PV.refs,qag,gcH,qaf,Obj.refs,PV.ren,Obj.ren,Heap.obj,Fr.ren,gh,zzd])
 rintro B-i hi hx;by_cases hlt:i<nl.length
 ·have h1:(i:Int)<nl.length:=by omega
  have h3:=wr1 (i:=i) (by omega)
  have hx':=hx (i+1) (by omega) (by omega)
  obtain⟨x,hxe⟩ : ∃x,nl[i]=x:=⟨_,rfl⟩;have hmem:x∈nl:=by rw[←hxe];exact zzs hlt
  by_cases ha:x.Account<1000
  ·simp[qgZ,h1,hlt,h3,hxe,ha];exact hx' _ _ (by simp[gc,Fr.keep,qad,qac,qab,PV.refs,qag,gcH,qaf,Obj.refs,PV.ren,Obj.ren,Heap.obj,Fr.ren,gh,zzd])
  have e12:=qkd T h.hU b x.Account hb
  have e39:=qtz T h.hV h.hU b x.Account e.Booked hb
  have e767:=qC1 T h.hU h.hQ b.Blocks.l b.Blocks.t x.Account e.Booked x.Amount hbl
  obtain⟨n,e768⟩:=qww T h b hb hbl x.Account e.Booked x.Amount;generalize (qfu b x.Account).getD .zero=acc at *
  cases hs:(qfu b x.Account).isSome with
  |false =>
   rw[hs] at e12;simp[qgZ,h1,hlt,hxe,ha,e12];exact qbM (show qiJ _ _ from⟨11,rfl,fun _=>by decide⟩)
  |true =>
   rw[hs] at e12;cases hac:qjW b x.Account e.Booked with
   |false =>
    rw[hac] at e39;simp[qgZ,h1,hlt,hxe,ha,e12,e39];exact qbM (show qiJ _ _ from⟨16,rfl,fun _=>by decide⟩)
   |true =>
    rw[hac] at e39;cases hde:qpf b.Blocks.l x.Account e.Booked x.Amount with
    |true =>
     rw[hde] at e767;simp[qgZ,h1,hlt,hxe,ha,e12,e39,e767];exact qbM (show qiJ _ _ from⟨19,rfl,fun _=>by decide⟩)
    |false =>
     rw[hde] at e767;by_cases hp:0<x.Amount
     ·have hc:ql9 nl=false:=by
       unfold ql9;rw[Bool.not_eq_false',List.any_eq_true];exact⟨x,hmem,by simp;omega⟩
      rw[hc];by_cases hn:n=0
      ·subst hn;rw[hc] at hx';simp[qgZ,h1,hlt,h3,hxe,ha,e12,e39,e767,hp,e768];exact hx' _ _ (by simp[gc,Fr.keep,qad,qac,qab,PV.refs,qag,gcH,qaf,Obj.refs,PV.ren,Obj.ren,Heap.obj,Fr.ren,gh,zzd])
      ·have gn:=qai hn
       simp[qgZ,h1,hlt,hxe,ha,e12,e39,e767,hp,e768,gn,bne];exact qbM (show qiJ _ _ from⟨n,rfl,fun c=>by cases c⟩)
     ·simp[qgZ,h1,hlt,h3,hxe,ha,e12,e39,e767,hp];exact hx' _ _ (by simp[gc,Fr.keep,qad,qac,qab,PV.refs,qag,gcH,qaf,Obj.refs,PV.ren,Obj.ren,Heap.obj,Fr.ren,gh,zzd])
 ·have:i=nl.length:=by omega
  subst this;have h1 : ¬((nl.length:Int)<nl.length):=by omega
  simp[qgZ];exact qbM (show qiJ _ _ from⟨0,rfl,fun _=>.inl rfl⟩)
theorem qDJ (T:Tab) (h:HAll T) (b:ABooks) (e:AEntry) (h0:e.Auth≠0):T.val 674 [b.dv,e.dv]=some (.d (I 0),false):=by
 have g:=qai h0
 rw[qae T (h.hF 674 qhu rfl) rfl];simp[qhu,Fr.ofArgs,g,bne]
end Go.Sim
end
section
namespace Go.Sim
set_option maxRecDepth 10000
set_option maxHeartbeats 4000000
theorem qGg (T:Tab) (hl:T.val 1091 []=some (.d (.b true),false)) (n:Int) (l:List ALeg) (hn:l.length≤1000) {k:KC (PV×Bool)} {fr:Fr} {H:Heap} (hr:qfh 4 k (some (.d (.b true),false))) (h0:gc [5,6,7] 0 ⟨fr,H⟩=⟨[(7,.d (I (0:Int))),(6,.d (.l (K1 3) (l.map ALeg.dv) false)),(5,.d (I n))],[]⟩) :
  kC T.env 0 fr H (.h (.loop [5,6,7] qiG,k))=brn (l.any fun x=>decide (1000≤x.Account)&&decide (0<x.Amount)) (.h (some (.d (.b true),false),k (.exit 0) [(34,.d (.b false)),(7,.d (I (l.length:Int))),(6,.d (.l (K1 3) (l.map ALeg.dv) false)),(5,.d (I n))] [])):=by
 rw[qb1 l (fun i _=>⟨[(7,.d (I (i:Int))),(6,.d (.l (K1 3) (l.map ALeg.dv) false)),(5,.d (I n))],[]⟩) (fun _ _=>True) (fun i _ x c=>if (decide (1000≤x.Account)&&decide (0<x.Amount))=true then some (.d (.b true),false) else c ()) (fun _=>k (.exit 0) [(34,.d (.b false)),(7,.d (I (l.length:Int))),(6,.d (.l (K1 3) (l.map ALeg.dv) false)),(5,.d (I n))] []) ?_ ?_ h0 trivial]
 ·rw[qgM (fun x:ALeg=>decide (1000≤x.Account)&&decide (0<x.Amount)) (some (.d (.b true),false))]
  ·cases l.any fun x=>decide (1000≤x.Account)&&decide (0<x.Amount)<;>rfl
  ·exact fun _ _ _ _=>rfl
 ·intro B _ _ _;simp[qiG]
 ·intro B _ i _ hi _ c hc;have h1:(i:Int)<l.length:=by omega
  have h3:=wr1 (i:=i) (by omega)
  by_cases ha:1000≤l[i].Account
  ·by_cases hm:0<l[i].Amount
   ·rw[if_pos (by simp[ha,hm])]
    simp[qiG,h1,hi,ha,hm,hl];exact hr _ _ (by simp[Fr.get]) (by simp[qau,gh])
   ·rw[if_neg (by simp[ha,hm])]
    simp[qiG,h1,hi,h3,ha,hm];exact hc () _ _ trivial (by simp[gc,Fr.keep,qad,qac,qab,PV.refs,gcH,PV.ren,Obj.ren,Heap.obj,Fr.ren,gh])
  ·rw[if_neg (by simp[ha])]
   simp[qiG,h1,hi,h3,ha];exact hc () _ _ trivial (by simp[gc,Fr.keep,qad,qac,qab,PV.refs,gcH,PV.ren,Obj.ren,Heap.obj,Fr.ren,gh])
theorem qDj (T:Tab) (h:HAll T) (hl:T.val 1091 []=some (.d (.b true),false)) (b:ABooks) (hb:b.ok) (e:AEntry):T.val 1087 [b.dv,e.dv]=some (.d (.b true),false):=by
 have e0:=qBu T h.hU b hb
 have hm:=mxl
 rw[qae T (h.hF 1087 qg8 rfl) rfl];by_cases hg:qjy b=true
 ·rw[hg] at e0;simp[qg8,Fr.ofArgs,e0,hl]
 have hg':qjy b=false:=by simpa using hg
 have hbl:b.Blocks.l.length≤100000:=by
  simp only[qjy,Bool.or_eq_false_iff,decide_eq_false_iff_not] at hg';omega
 rw[hg'] at e0;by_cases hn:(30:Int)<e.Legs.l.length
 ·simp[qg8,Fr.ofArgs,e0,hl,hn]
 have hn':e.Legs.l.length≤30:=by omega
 by_cases h0:e.Auth=0
 ·obtain⟨r,er,n,rfl,hk⟩:=qyV T h b hb hbl e (by omega) h0
  have e110:=qrB T h.hN h.hI e.Legs.l e.Legs.t (by omega)
  have hnl:(qg9 e.Legs.l).length≤1000:=Nat.le_trans (qvD e.Legs.l) (by omega)
  generalize qg9 e.Legs.l=nl at *
  simp[qg8,Fr.ofArgs,e0,hn,h0,er,e110];refine (qGg T hl n nl hnl (by simp[qhy,qhx,qhc]) (by simp[gc,Fr.keep,qad,qac,qab,PV.refs,gcH,PV.ren,Obj.ren,Heap.obj,Fr.ren,gh])).trans ?_
  cases hc:nl.any fun x=>decide (1000≤x.Account)&&decide (0<x.Amount) with
  |true=>simp
  |false =>
   rcases hk (by unfold ql9;rw[hc];rfl) with rfl|rfl|rfl|rfl<;>simp[hl]
 ·have e674:=qDJ T h b e h0
  have g:=qai h0
  simp[qg8,Fr.ofArgs,e0,hl,hn,g,e674,bne]
end Go.Sim
end
end
