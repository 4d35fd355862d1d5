/- Part 24 of the proof. -/
import Derived.Test.YtpfeklkomlghlaaGreatDoorB23
set_option linter.all false
namespace Go.Sim
set_option maxRecDepth 100000
set_option maxHeartbeats 8000000
section
attribute [local simp ↓] qgR qgP qgH qgQ qgE qgI qgF qgG sqK blK lpK qgW qgU qgS qgV qgT qgy qgA qhA qf9 qf7 qf8 qge qfB qfC qfl qfo qfA qfE qfn qfF qfu qfw qfx qfy qfD qfz qfm qfp qfq qfr qfv qf5 qf2 qfI qfH qfQ qfJ qdn qdT qfK qfL qgY qeX qgX qhv qe6 qfX qfY qfR qfT qfS qeN qf6 qeO qfN qf1 qfV qfU qfP qfO qf0 qf3 qfM qfZ qgz qeM qe5 qgo qg9 qcF qgp qeP qeQ qf4 qdh qhu qfs qga qgb qg2 qhw qgZ qgJ qgK qgL qgM qgN qgO qft qgn qeL qiM qiN qiK qiL qiI qhS qiS qiO qjq qiP qjG qkq qfW
attribute [local simp] qcD qg4 qg5 qgu qgv qgj qgk qhs qht qgr qgs rd IOp.adds qar gh nid rgK rdS qgw qgx qha qhb qhf qhg qhj qhe qhi qhh qfg qfe qff qhd qhc qgm qgl qhl qhk qhm qhn qgq qhZ qh0 qds qia qbL qif qjz qi8 qjy qjx
section
attribute [local simp ↓] qbm qbn qbg qbz qbp qbJ qbd qbf qbw qbA qbB qbu qbv qbe qby qbj qbR qbQ qdZ qbH qbE qd8 qd7 qbl qdV qb2 qdW qdY qdX qbG qbF qd1 qd3 qd6 qd5 qd4 qd0 qd2 qd9 qbC qbD
attribute [local simp] qbh qa3 Ar Az qas qaP chg qaY runs qaM qaX PV.refs PV.Av IOp.okD IOp.Bg qbk Nat.testBit
attribute [local simp] gc Fr.keep qaH qaw qat PV.refs PV.Av qaJ gcH qaO Obj.refs PV.ren PV.Bp Obj.ren Heap.obj Fr.ren gh zzd
def qsI{n:Int}(h:inK .i64 n):w64 n=n:=by simp only[inK,Lit.wf,IntKind.min,IntKind.max,IntKind.signed,IntKind.bits,zzf,zzq,if_true]at h;exact wrI (by omega) (by omega)
def qpr:∀(l g:CL Ad),(l.foldl qa1 g).length<=g.length+l.length
 |[],g=>by simp
 |x::l,g=>by have:=qpr l (qa1 g x);have h2:=qpp g (zM x);rw[List.foldl_cons];have h3:(qa1 g x).length<=g.length+1:=h2;simp;omega
def qQA(T:Tab)(hN:HN T)(hP:HP T)(hI:HI2 T)(e:Ag)(he:e.ok):T.val 111 [e.dv]=some (.d (I (qgd e)),false):=by
 rw[qab T (hP 111 F111 rfl) rfl];have e1:=qQD T hP e.Key he.2.2.2.2.2.2.1;have e2:T.val 183 [.s e.Text,.i .u8 32,I 64]=some (.d (.b (qdj e.Text 32 64)),false):=qCM T hP e.Text 32 64 he.2.2.2.2.2.2.2.1;have e3:=qvp T hP e.BK;have e4:=qvp T hP e.Value;have e5:=qvp T hP e.BP;unfold qgd;cases hk:qh4 e.Key with
 |false=>rw[hk]at e1;simp[F111,Fr.Aa,e1]
 |true=>
  rw[hk]at e1;cases ht:qdj e.Text 32 64 with
  |false=>rw[ht]at e2;simp[F111,Fr.Aa,e1,e2,ht,bne]
  |true=>
   rw[ht]at e2;cases hb:qaZ e.BK with
   |false=>rw[hb]at e3;simp[F111,Fr.Aa,e1,e2,ht,e3,hb,bne]
   |true=>
    rw[hb]at e3;cases hv:qaZ e.Value with
    |false=>rw[hv]at e4;simp[F111,Fr.Aa,e1,e2,ht,e3,hb,e4,hv,bne]
    |true=>
     rw[hv]at e4;cases hp:qaZ e.BP with
     |false=>rw[hp]at e5;simp[F111,Fr.Aa,e1,e2,ht,e3,hb,e4,hv,e5,hp,bne]
     |true=>
      rw[hp]at e5;by_cases k1:e.Kind<1
      ·simp[F111,Fr.Aa,e1,e2,ht,e3,hb,e4,hv,e5,hp,k1]
      ·have k1':decide (e.Kind<1)=false:=by simpa using k1
       by_cases k2:14<e.Kind
       ·simp[F111,Fr.Aa,e1,e2,ht,e3,hb,e4,hv,e5,hp,k1,k2]
       ·have k2':decide (14<e.Kind)=false:=by simpa using k2
        by_cases a1:e.Auth<0
        ·simp[F111,Fr.Aa,e1,e2,ht,e3,hb,e4,hv,e5,hp,k1,k2,a1]
        ·have a1':decide (e.Auth<0)=false:=by simpa using a1
         by_cases a2:3<e.Auth
         ·simp[F111,Fr.Aa,e1,e2,ht,e3,hb,e4,hv,e5,hp,k1,k2,a1,a2]
         ·have a2':decide (3<e.Auth)=false:=by simpa using a2
          by_cases n1:e.Ai.l.length<2
          ·have n1':(e.Ai.l.length:Int)<2:=by omega
           simp[F111,Fr.Aa,e1,e2,ht,e3,hb,e4,hv,e5,hp,k1,k2,a1,a2,n1,n1',bne]
          ·have n1':¬(e.Ai.l.length:Int)<2:=by omega
           by_cases n2:12<e.Ai.l.length
           ·have n2':(12:Int)<e.Ai.l.length:=by omega
            simp[F111,Fr.Aa,e1,e2,ht,e3,hb,e4,hv,e5,hp,k1,k2,a1,a2,n1,n1',n2,n2',bne]
           ·have n2':¬(12:Int)<e.Ai.l.length:=by omega
            have e6:=qCN T hN hP hI e.Ai.l e.Ai.t (by omega) (λx hx=>qsI (he.2.2.2.2.2.2.2.2.1.2 x hx).2.1);have hl:=qpr e.Ai.l [];simp only[List.length_nil]at hl;simp[F111,Fr.Aa,e1,e2,ht,e3,hb,e4,hv,e5,hp,k1,k2,a1,a2,n1,n1',n2,n2',bne];refine (qJn T hP e (by have:=he.2.2.2.2.2.2.2.2.1.1;exact this) he.2.2.2.2.2.2.2.2.1.2 (r:=λn=>some (.d (I n),false)) (λfr H n h hg=>by simp[h,hg,qcF]) (by simp)).trans ?_;by_cases g1:qcQ e.Ai.l=0
            ·rw[if_pos g1];have lp:=λk fr H r hr h0=>@qJo T (e.Ai.l.foldl qa1 []) (by omega) k r fr H hr h0;simp[e6,g1];rw[lp _ _ _ (some (.d (I 15),false)) (λfr H h hg=>by simp[h,hg,qcF]) (by simp)];cases qiG (e.Ai.l.foldl qa1 [])with
             |true=>simp
             |false=>simp
            ·rw[if_neg g1];simp[g1]
def qRo(T:Tab)(hP:HP T)(e:Ag)(he:e.ok):T.val 679 [e.dv]=some (.d (I (qgd e)),false):=by
 rw[qab T (hP 679 F679 rfl) rfl];have e1:=qRk T hP e.Key he.2.2.2.2.2.2.1;have e2:T.val 685 [.s e.Text,I 64,.i .u8 32]=some (.d (.b (qdj e.Text 32 64)),false):=qC1 T hP e.Text 32 64 he.2.2.2.2.2.2.2.1;have e3:=qvv T hP e.BK;have e4:=qvv T hP e.Value;have e5:=qvv T hP e.BP;unfold qgd;cases hk:qh4 e.Key with
 |false=>rw[hk]at e1;simp[F679,Fr.Aa,e1]
 |true=>
  rw[hk]at e1;cases ht:qdj e.Text 32 64 with
  |false=>rw[ht]at e2;simp[F679,Fr.Aa,e1,e2,ht,bne]
  |true=>
   rw[ht]at e2;cases hb:qaZ e.BK with
   |false=>rw[hb]at e3;simp[F679,Fr.Aa,e1,e2,ht,e3,hb,bne]
   |true=>
    rw[hb]at e3;cases hv:qaZ e.Value with
    |false=>rw[hv]at e4;simp[F679,Fr.Aa,e1,e2,ht,e3,hb,e4,hv,bne]
    |true=>
     rw[hv]at e4;by_cases k1:e.Kind<1
     ·simp[F679,Fr.Aa,e1,e2,ht,e3,hb,e4,hv,k1]
     ·have k1':decide (e.Kind<1)=false:=by simpa using k1
      by_cases k2:14<e.Kind
      ·simp[F679,Fr.Aa,e1,e2,ht,e3,hb,e4,hv,k1,k2]
      ·have k2':decide (14<e.Kind)=false:=by simpa using k2
       by_cases a1:e.Auth<0
       ·simp[F679,Fr.Aa,e1,e2,ht,e3,hb,e4,hv,k1,k2,a1]
       ·have a1':decide (e.Auth<0)=false:=by simpa using a1
        by_cases a2:3<e.Auth
        ·simp[F679,Fr.Aa,e1,e2,ht,e3,hb,e4,hv,k1,k2,a1,a2]
        ·have a2':decide (3<e.Auth)=false:=by simpa using a2
         by_cases hz:e.BP=0
         ·have hp0:qaZ 0=true:=rfl;by_cases n1:e.Ai.l.length<2
          ·have n1':(e.Ai.l.length:Int)<2:=by omega
           simp[F679,Fr.Aa,e1,e2,ht,e3,hb,e4,hv,k1,k2,a1,a2,hz,hp0,n1,n1',bne]
          ·have n1':¬(e.Ai.l.length:Int)<2:=by omega
           by_cases n2:12<e.Ai.l.length
           ·have n2':(12:Int)<e.Ai.l.length:=by omega
            simp[F679,Fr.Aa,e1,e2,ht,e3,hb,e4,hv,k1,k2,a1,a2,hz,hp0,n1,n1',n2,n2',bne]
           ·have n2':¬(12:Int)<e.Ai.l.length:=by omega
            have e6:=qC3 T hP e.Ai.l e.Ai.t (by omega) (λx hx=>qsI (he.2.2.2.2.2.2.2.2.1.2 x hx).2.1);have hl:=qpr e.Ai.l [];simp only[List.length_nil]at hl;simp[F679,Fr.Aa,e1,e2,ht,e3,hb,e4,hv,k1,k2,a1,a2,hz,hp0,n1,n1',n2,n2',bne];refine (qAa T hP e (by have:=he.2.2.2.2.2.2.2.2.1.1;exact this) he.2.2.2.2.2.2.2.2.1.2 (r:=λn=>some (.d (I n),false)) (λfr H n h hg=>by simp[h,hg,qcF]) (by simp)).trans ?_;by_cases g1:qcQ e.Ai.l=0
            ·rw[if_pos g1];have lp:=λk fr H r hr h0=>@qAb T (e.Ai.l.foldl qa1 []) (by omega) k r fr H hr h0;simp[e6,g1];rw[lp _ _ _ (some (.d (I 15),false)) (λfr H h hg=>by simp[h,hg,qcF]) (by simp)];cases qiG (e.Ai.l.foldl qa1 [])with
             |true=>simp
             |false=>simp
            ·rw[if_neg g1];simp[g1]
         have hz':(e.BP==0)=false:=by simpa using hz
         cases hp:qaZ e.BP with
         |false=>rw[hp]at e5;simp[F679,Fr.Aa,e1,e2,ht,e3,hb,e4,hv,k1,k2,a1,a2,e5,hz',hp,bne]
         |true=>
          rw[hp]at e5;by_cases n1:e.Ai.l.length<2
          ·have n1':(e.Ai.l.length:Int)<2:=by omega
           simp[F679,Fr.Aa,e1,e2,ht,e3,hb,e4,hv,k1,k2,a1,a2,e5,hz',hp,n1,n1',bne]
          ·have n1':¬(e.Ai.l.length:Int)<2:=by omega
           by_cases n2:12<e.Ai.l.length
           ·have n2':(12:Int)<e.Ai.l.length:=by omega
            simp[F679,Fr.Aa,e1,e2,ht,e3,hb,e4,hv,k1,k2,a1,a2,e5,hz',hp,n1,n1',n2,n2',bne]
           ·have n2':¬(12:Int)<e.Ai.l.length:=by omega
            have e6:=qC3 T hP e.Ai.l e.Ai.t (by omega) (λx hx=>qsI (he.2.2.2.2.2.2.2.2.1.2 x hx).2.1);have hl:=qpr e.Ai.l [];simp only[List.length_nil]at hl;simp[F679,Fr.Aa,e1,e2,ht,e3,hb,e4,hv,k1,k2,a1,a2,e5,hz',hp,n1,n1',n2,n2',bne];refine (qAa T hP e (by have:=he.2.2.2.2.2.2.2.2.1.1;exact this) he.2.2.2.2.2.2.2.2.1.2 (r:=λn=>some (.d (I n),false)) (λfr H n h hg=>by simp[h,hg,qcF]) (by simp)).trans ?_;by_cases g1:qcQ e.Ai.l=0
            ·rw[if_pos g1];have lp:=λk fr H r hr h0=>@qAb T (e.Ai.l.foldl qa1 []) (by omega) k r fr H hr h0;simp[e6,g1];rw[lp _ _ _ (some (.d (I 15),false)) (λfr H h hg=>by simp[h,hg,qcF]) (by simp)];cases qiG (e.Ai.l.foldl qa1 [])with
             |true=>simp
             |false=>simp
            ·rw[if_neg g1];simp[g1]
end
section
variable {R:Type}{H:CW}{id:Nat}{k:K}{b:Nat}{q:PV->CW->CK R}
def qkn{o off len:Nat}{k':K}:bo2 (qc6 H id k b (.r o k' off len false) []) (.h q)=match H.obj o with
  |some (.sl k'' ro es)=>chk ((K.eq k k'&&K.eq k k''&&decide (off+len<=es.length)&&decide (len*b<=2^47))=true) (.h (chk (ro<=off+len) (.h (q (.r id k 0 len false) ((H.put o none).put id (some (.sl k (ro-off) ((es.drop off).take len))))))))
  |_=>none:=by
 simp only[qc6,qcb,qbb,qcD,Bool.true_or,if_true,chk,List.length_nil,Nat.add_zero,List.isEmpty_nil,Bool.or_true];cases H.obj o with
 |none=>rfl
 |some x=>
  cases x with
  |sl k'' ro es=>
   simp only[List.append_nil,zzg,if_false];split
   ·split<;>rfl
   ·rfl
  |_=>rfl
def qko{o off len:Nat}{k':K}{t:CO}{ys:Cy}(hy:ys≠[]):bo2 (qc6 H id k b (.r o k' off len t) ys) (.h q)=match H.obj o with
  |some (.sl k'' ro es)=>chk ((K.eq k k'&&K.eq k k''&&decide (off+len<=es.length)&&decide ((len+ys.length)*b<=2^47))=true) (.h (brn t (.h (q (.r id k 0 (len+ys.length) false) (H.put id (some (.sl k 0 ((es.drop off).take len++ys)))),chk (ro<=off+len) (.h (q (.r id k 0 (len+ys.length) false) ((H.put o none).put id (some (.sl k (ro-off) ((es.drop off).take len++ys))))))))))
  |_=>none:=by
 cases ys with
 |nil=>exact absurd rfl hy
 |cons y ys=>exact qhS
end
def qp6{k:K}:∀{l:Cy},l≠[]->qah k l=.r 0 k 0 l.length false/\qaz k l=[some (.sl k 0 l)]
 |[],h=>absurd rfl h
 |_::_,_=>⟨rfl,rfl⟩
def qPS(H:CW):slA H K0 (.d (.l K0 [] true)) none (some (.d (I 0))) none=some (.d (.l K0 [] true)):=rfl
def qPT(H:CW):slA H K0 (.d (.l K0 [] true)) (some (.d (I 0))) none none=some (.d (.l K0 [] true)):=rfl
def qCi(L:Cy)(j:Nat)(hj:j<=L.length)(H:CW):slA (some (.sl K0 0 L)::H) K0 (.r 0 K0 0 L.length false) none (some (.d (I j))) none=some (.r 0 K0 0 j false):=by have h1:(0:Int)<=(j:Int)/\(j:Int)<=(L.length:Int):=⟨by omega,by omega⟩;simp[slA,Heap.obj,bnd,asI,K.eq,h1]
def qCj(L:Cy)(j:Nat)(hj:j<=L.length)(H:CW):slA (some (.sl K0 0 L)::H) K0 (.r 0 K0 0 L.length false) (some (.d (I j))) none none=some (.r 0 K0 j (L.length-j) false):=by have h1:(0:Int)<=(j:Int)/\(j:Int)<=(L.length:Int):=⟨by omega,by omega⟩;simp[slA,Heap.obj,bnd,asI,K.eq,h1]
def sdK(v:DV):qcI K0 v 0 K0=some v:=rfl
def qx3(id frm upto:Int):∀(l:CL Ag) (i:Nat) (n:Int),(-9223372036854775808<=n/\n<9223372036854775808)->-9223372036854775808<=qaU (qev id frm upto) i n l/\qaU (qev id frm upto) i n l<9223372036854775808
 |[],_,_,h=>h
 |x::l,i,n,h=>by
  rw[qaU];refine qx3 id frm upto l (i+1) _ ?_;unfold qev;split
  ·exact qnX _
  ·exact h
def qFQ(b:Af)(id day amount:Int):∀p∈(qbI b id day amount).1,-9223372036854775808<=p.2/\p.2<9223372036854775808:=by
 intro p hp;unfold qbI at hp;split at hp
 ·cases hp
 ·split at hp
  ·split at hp
   ·rename_i a _ hv ha;simp only[zzB,zzN,List.mem_cons,zzC,or_false]at hp;rcases hp with ⟨n,hn,rfl⟩|rfl|rfl|rfl
    ·have:=List.all_eq_true.1 ha n hn;simp only[wth,MA,zzf,zzq]at this;simp only;omega
    ·exact qx3 id _ _ _ 0 0 (by decide)
    ·exact qnX _
    ·have:0<=day/\day<=73048:=by simp only[zzf]at hv;have:=hv.1;unfold qaZ at this;simp only[zzf,zzq]at this;omega
     simp only;omega
   ·cases hp
  ·cases hp
def qry{l:CL Aj}{nm:CB}{day:Int}{p:Aj}(h:atP l nm day=some p):p∈l:=by
 unfold atP at h;split at h
 ·cases h
 ·exact List.mem_of_getElem? h
structure HEv (T:Tab):Prop where
 hT:HT T
 hU:HU T
 hV:HV T
 hC:HC T
 hW:HWd T
 hA:HA T
 vars:∃(vs:List Aq) (t o:Bool),T.val 371 []=some (.d (.l (K1 2) (vs.map Aq.dv) t),o)/\vs.length<=1000/\T.val 945 [.l (K1 2) (vs.map Aq.dv) t]=some (.d (I 0),false)
def qCF(T:Tab)(h:HEv T)(x:Ae)(hx:x.ok)(b:Af)(id day amount:Int)(te:CO):∃(V:DV) (o:CO) (q:Ah×Int),T.val 371 []=some (.d V,o)/\T.val 916 [x.dv,V,.l (K1 2) ((qbI b id day amount).1.map V2) te]=some (qa4 q):=by
 obtain⟨vs,t,o,e1,hn,e2⟩:=h.vars;have hm:(qbI b id day amount).1.map V2=((qbI b id day amount).1.map λp=>(⟨p.1,p.2⟩:Ah)).map Ah.dv:=by rw[List.map_map];rfl
 obtain⟨q,hq⟩:=qRN T h.hT h.hA (hnm T h.hT h.hC h.hW) vs ((qbI b id day amount).1.map λp=>(⟨p.1,p.2⟩:Ah)) t te hn (λe he=>by
  obtain⟨p,hp,rfl⟩:=zzN.1 he;exact qFQ b id day amount p hp) e2 x hx
 exact⟨_,o,q,e1,by rw[hm];exact hq⟩
section
attribute [local simp ↓] qbm qbn qbg qbz qbp qbJ qbd qbf qbw qbA qbB qbu qbv qbe qby qbj qbR qbQ qdZ qbH qbE qd8 qd7 qbl qdV qb2 qdW qdY qdX qbG qbF qd1 qd3 qd6 qd5 qd4 qd0 qd2 qd9 qbC qbD
attribute [local simp] qbh qa3 Ar Az qas qaP chg qaY runs qaM qaX PV.refs PV.Av IOp.okD IOp.Bg qbk Nat.testBit
attribute [local simp] gc Fr.keep qaH qaw qat PV.refs PV.Av qaJ gcH qaO Obj.refs PV.ren PV.Bp Obj.ren Heap.obj Fr.ren gh zzd
def hN(x:Ae):CO->CL (CB)->CW
 |true,L=>[some (.sl K0 0 (L.map DV.s)),some (.box (K1 4) (.d x.dv))]
 |false,_=>[some (.box (K1 4) (.d x.dv))]
def qcN(ev:Int)(f:Ao):CO:=f.Event==ev
def qJP(T:Tab)(h8:H8 T)(hc:HCl T 956 (K1 4) 56)(l:CL Ao)(t:CO)(ev:Int)(hn:l.length<=1000)(ho:∀f∈l,f.ok){k:KC (PV×CO)}{r:CG}{fr:Fr}{H:CW}
  (he:k (.exit 0) [(12,.d (.b false)),(11,.d (I l.length)),(10,.d (I l.length)),(9,.d (.l (K1 10) (l.map Ao.dv) t)),(5,qah (K1 10) ((l.filter (qcN ev)).map Ao.dv)),(1,.d (I ev))] (qaz (K1 10) ((l.filter (qcN ev)).map Ao.dv))=r)
  (h0:gc [1,5,9,10,11] 0 ⟨fr,H⟩=⟨[(11,.d (I 0)),(10,.d (I l.length)),(9,.d (.l (K1 10) (l.map Ao.dv) t)),(5,qah (K1 10) []),(1,.d (I ev))],qaz (K1 10) []⟩) :
  kC T.env 0 fr H (.h (.loop [1,5,9,10,11] qkf,k))=r:=by
 refine qcq (λp:Nat×CL Ao=>⟨[(11,.d (I p.1)),(10,.d (I l.length)),(9,.d (.l (K1 10) (l.map Ao.dv) t)),(5,qah (K1 10) (p.2.map Ao.dv)),(1,.d (I ev))],qaz (K1 10) (p.2.map Ao.dv)⟩) (λp=>p.1<=l.length/\p.2=(l.take p.1).filter (qcN ev)) (λp=>l.length-p.1) ?_ (0,[]) ⟨zzK _,rfl⟩ h0;rintro B-⟨i,o⟩ ⟨hi,ha⟩ hx;simp only at hi ha hx⊢;by_cases hlt:i<l.length
 ·have h1:(i:Int)<l.length:=by omega
  have h3:=wr1 (i:=i) (by omega);have hol:o.length<=i:=by rw[ha];exact zzL (List.length_filter_le _ _) (by simp;omega)
  have hst:(l.take (i+1)).filter (qcN ev)=if qcN ev l[i]=true then o++[l[i]]else o:=by rw[zzw hlt,List.filter_append,<-ha,List.filter_cons];split<;>simp
  obtain⟨f,hf⟩:∃f,l[i]=f:=⟨_,rfl⟩;have hfo:f.ok:=by rw[<-hf];exact ho _ (zzs hlt)
  rw[hf]at hst;have e0:=qC4 T h8 hc _ f.When (zzt _) (hfo.2.2.1);have p0:=λ(y:PV->CG)=>qAs (y:=y) (n:=10) (c:=2) (v:=f.dv) (w:=f.When.dv) rfl rfl rfl;have e1:=qC4 T h8 hc _ f.Amount (zzt _) (hfo.2.2.2);have p1:=λ(y:PV->CG)=>qAs (y:=y) (n:=10) (c:=6) (v:=f.dv) (w:=f.Amount.dv) rfl rfl rfl;by_cases hv:f.Event=ev
  ·rw[if_pos (show qcN ev f=true by simp[qcN,hv])]at hst;have hx':=λhm=>hx (i+1,o++[f]) ⟨by show i+1<=l.length;omega,hst.symm⟩ hm;simp only[List.map_append,zzu,List.map_nil]at hx';have hx2:=hx' (by omega);clear hx' hx;generalize ho':o.map Ao.dv=od at *
   have hod:od.length<=i:=by rw[<-ho',zzo];exact hol
   cases od with
   |nil=>simp only[qah,qaz,List.nil_append]at hx2⊢;simp[qkf,h1,hlt,h3,hf,hv,zzj,e0,↓p0,e1,↓p1,qi5,qep,qai,qan,qc7,qmH,qmS];exact hx2 _ _ (by simp[h3,Ao.dv])
   |cons x od=>
    simp only[qah,qaz,List.cons_append]at hx2⊢;simp only[zzn]at hod;have h5:(od.length+1+1)*136<=140737488355328:=by omega
    have ht:od.take od.length=od:=zzv (by simp);simp[qkf,h1,hlt,h3,hf,hv,h5,ht,zzj,e0,↓p0,e1,↓p1,qi5,qep,qai,qan,qc7,qmH,qmS];exact hx2 _ _ (by simp[h3,Ao.dv])
  ·rw[if_neg (show ¬qcN ev f=true by simp[qcN,hv])]at hst;have hx2:=hx (i+1,o) ⟨by show i+1<=l.length;omega,hst.symm⟩ (by show l.length-(i+1)<l.length-i;omega);clear hx;have gv:=qae hv;generalize ho':o.map Ao.dv=od at *
   cases od with
   |nil=>simp only[qah,qaz]at hx2⊢;simp[qkf,h1,hlt,h3,hf,hv,gv,zzj];exact hx2 _ _ (by simp[h3,Ao.dv])
   |cons x od=>simp only[qah,qaz]at hx2⊢;simp[qkf,h1,hlt,h3,hf,hv,gv,zzj];exact hx2 _ _ (by simp[h3,Ao.dv])
 ·have:i=l.length:=by omega
  subst this;rw[List.take_length]at ha;subst ha;have h1:¬((l.length:Int)<l.length):=by omega
  simp[qkf];exact he
def qRA(T:Tab)(h8:H8 T)(hc:HCl T 956 (K1 4) 56)(p:Aj)(ev:Int)(hn:p.AQ.l.length<=1000)(ho:∀f∈p.AQ.l,f.ok):T.val 878 [p.dv,I ev]=some (.d (.l (K1 10) ((p.AQ.l.filter (qcN ev)).map Ao.dv) false),true):=by
 have lp:=λk r fr H=>@qJP T h8 hc p.AQ.l p.AQ.t ev hn ho k r fr H;rw[qab T (h8 878 F878 rfl) rfl];cases hl:p.AQ.l.filter (qcN ev)with
 |nil=>rw[hl]at lp;simp[F878,Fr.Aa];refine lp _ _ _ _ ?_ (by simp[qah,qaz]);simp[qah,qaz]
 |cons x o=>rw[hl]at lp;simp[F878,Fr.Aa];refine lp _ _ _ _ ?_ (by simp[qah,qaz]);have ht:(o.map Ao.dv).take o.length=o.map Ao.dv:=zzv (by simp);simp[qah,qaz,ht]
noncomputable def qb5(b:Af)(id day ev am:Int):CL Ao×Int:=
 if (qdG b id).isSome=false then ([],11)else if qaZ day=false\/qkl b id day=false then ([],16)else if ev<1\/4<ev\/am<0\/1000000000000<am then ([],1)
 else match qdM b id day with|none=>([],11)|some p=>(p.AQ.l.filter (qcN ev),0)
def qRu(T:Tab)(h:HEv T)(h8:H8 T)(hc:HCl T 956 (K1 4) 56)(b:Af)(hb:b.ok)(hf:∀p∈b.AZ.l,p.AQ.l.length<=1000)(id day ev am:Int) :
  ∃t,T.val 800 [b.dv,I id,I day,I ev,I am]=some (.t [.d (.l (K1 10) ((qb5 b id day ev am).1.map Ao.dv) t),.d (I (qb5 b id day ev am).2)],false):=by
 have e12:=qqB T h.hU b id hb;have e22:=qnU T h.hV day;have e39:=qCT T h.hV h.hU b id day hb;have e24:=qCO T h.hU b id day hb;have hp:∀p,qdM b id day=some p->p∈b.AZ.l:=by
  intro p hp;unfold qdM at hp;split at hp
  ·exact qry hp
  ·cases hp
 have e878:∀p,qdM b id day=some p->T.val 878 [p.dv,I ev]=some (.d (.l (K1 10) ((p.AQ.l.filter (qcN ev)).map Ao.dv) false),true):=λp h'=>qRA T h8 hc p ev (hf p (hp p h')) (hb.2.2.2.2.1.2 p (hp p h')).2.2.2.2.2.2.2.2.2.1.2;unfold qb5;generalize (qdG b id).getD .zero=acc at *
 generalize qkl b id day=ac at *
 generalize qaZ day=vd at *
 generalize qdM b id day=pr at *
 rw[qab T (h8 800 qdC rfl) rfl];cases hs:(qdG b id).isSome with
 |false=>rw[hs]at e12;refine⟨true,?_⟩;simp[qdC,Fr.Aa,e12]
 |true=>
  rw[hs]at e12;rw[if_neg (by simp)];cases vd with
  |false=>rw[if_pos (.inl rfl)];refine⟨true,?_⟩;simp[qdC,Fr.Aa,e12,e22]
  |true=>
   cases ac with
   |false=>rw[if_pos (.inr rfl)];refine⟨true,?_⟩;simp[qdC,Fr.Aa,e12,e22,e39]
   |true=>
    rw[if_neg (by simp)];by_cases h1:ev<1
    ·rw[if_pos (.inl h1)];refine⟨true,?_⟩;simp[qdC,Fr.Aa,e12,e22,e39,h1]
    by_cases h2:4<ev
    ·rw[if_pos (.inr (.inl h2))];refine⟨true,?_⟩;simp[qdC,Fr.Aa,e12,e22,e39,h1,h2]
    by_cases h3:am<0
    ·rw[if_pos (.inr (.inr (.inl h3)))];refine⟨true,?_⟩;simp[qdC,Fr.Aa,e12,e22,e39,h1,h2,h3]
    by_cases h4:1000000000000<am
    ·rw[if_pos (.inr (.inr (.inr h4)))];refine⟨true,?_⟩;simp[qdC,Fr.Aa,e12,e22,e39,h1,h2,h3,h4]
    rw[if_neg (by omega)];cases pr with
    |none=>refine⟨true,?_⟩;simp[qdC,Fr.Aa,e12,e22,e39,h1,h2,h3,h4,e24]
    |some p=>
     have e:=e878 p rfl;simp only[zzA,Option.isSome_some]at e24;refine⟨false,?_⟩;show _=some (PV.t [.d (.l (K1 10) ((p.AQ.l.filter (qcN ev)).map Ao.dv) false),.d (I 0)],false);generalize (p.AQ.l.filter (qcN ev)).map Ao.dv=fl at *
     simp[qdC,Fr.Aa,e12,e22,e39,h1,h2,h3,h4,e24,e]
noncomputable def qgc(T:Tab)(E:DV)(f:Ao):Int×Int:=match T.val 802 [qdf f E]with|some (.t [.d (.i _ a),.d (.i _ e)],_)=>(a,e)|_=>(0,0)
def qEY{T:Tab}{E:DV}{f:Ao}{p:Int×Int}(h:T.val 802 [qdf f E]=some (two p)):T.val 802 [qdf f E]=some (two (qgc T E f)):=by
  have:qgc T E f=p:=by unfold qgc;rw[h];rfl
  rw[this];exact h
def chE(g:Ao->Int×Int)(f:Ao):Cy:=if 0<(g f).1 then [.a [.s f.Name,I (g f).1]]else []
def chL(g:Ao->Int×Int)(l:CL Ao):Cy:=l.flatMap (chE g)
def qrL(g:Ao->Int×Int):∀l,(chL g l).length<=l.length
  |[]=>zzt _
  |f::l=>by
    have:=qrL g l;have h1:(chE g f).length<=1:=by unfold chE;split<;>simp
    show ((chE g f)++chL g l).length<=_;rw[zzp,zzn];omega
def qEW(g:Ao->Int×Int)(l:CL Ao)(i:Nat)(h:i<l.length):chL g (l.take (i+1))=chL g (l.take i)++chE g l[i]:=by unfold chL;rw[zzw h,List.flatMap_append];simp
def qJJ(T:Tab)(l:CL Ao)(t:CO)(es:Cy)(te:CO)(g:Ao->Int×Int)(hg:∀f∈l,T.val 802 [qdf f (.l (K1 2) es te)]=some (two (g f)))(hn:l.length<=1000){k:KC (PV×CO)}{r:CG}{fr:Fr}{H:CW}
    (he:qbo (λf=>(g f).2) l=0->k (.exit 0) [(51,.d (.b false)),(50,.d (I l.length)),(49,.d (I l.length)),(48,.d (.l (K1 10) (l.map Ao.dv) t)),(15,qah (K1 2) (chL g l)),(14,.d (.l (K1 2) es te))] (qaz (K1 2) (chL g l))=r)
    (hr:qbo (λf=>(g f).2) l≠0->∀fr J,fr.get 10=.d (.l (K1 2) [] true)->fr.get 11=.d (I (qbo (λf=>(g f).2) l))->qao fr=[]->k .ret fr J=r)
    (h0:gc [14,15,48,49,50] 0 ⟨fr,H⟩=⟨[(50,.d (I 0)),(49,.d (I l.length)),(48,.d (.l (K1 10) (l.map Ao.dv) t)),(15,qah (K1 2) []),(14,.d (.l (K1 2) es te))],qaz (K1 2) []⟩) :
    kC T.env 0 fr H (.h (.loop [14,15,48,49,50] qhN,k))=r:=by
  refine qcq (λi:Nat=>⟨[(50,.d (I i)),(49,.d (I l.length)),(48,.d (.l (K1 10) (l.map Ao.dv) t)),(15,qah (K1 2) (chL g (l.take i))),(14,.d (.l (K1 2) es te))],qaz (K1 2) (chL g (l.take i))⟩) (λi=>i<=l.length/\∀v∈l.take i,(g v).2=0) (λi=>l.length-i) ?_ 0 ⟨zzK _,by simp⟩ (by rw[h0];rfl);rintro B-i ⟨hi,ha⟩ hx;by_cases hlt:i<l.length
  · have h1:(i:Int)<l.length:=by omega
    have h3:=wr1 (i:=i) (by omega);have e:=hg l[i] (zzs hlt);unfold two qdf at e;have hl:(chL g (l.take i)).length<=i:=zzL (qrL _ _) (by simp;omega);by_cases hs:(g l[i]).2=0
    · have hx':=hx (i+1) ⟨by omega,by
        rw[zzw hlt];intro v hv;rcases zzB.1 hv with hv|hv
        · exact ha v hv
        · rw[zzH.1 hv];exact hs⟩ (by omega)
      rw[qEW g l i hlt]at hx';unfold chE at hx';rw[hs]at e;obtain⟨f,hf⟩:∃f,l[i]=f:=⟨_,rfl⟩;rw[hf]at e hx';generalize chL g (l.take i)=o at *
      by_cases hp:0<(g f).1
      · rw[if_pos hp]at hx';cases o with
        |nil=>simp only[qah,qaz,List.nil_append]at hx'⊢;simp[qhN,h1,hlt,h3,hf,e,hp,zzj,↓qak,↓qam,↓qal,putAt,mkA,qac,qai,qan,qaj,qbK,Ao.dv,qc1,qa6,qep,qc7,qds];exact hx' _ _ (by simp)
        |cons x o=>
          simp only[qah,qaz,List.cons_append]at hx'⊢;simp only[zzn]at hl;have h5:(o.length+1+1)*24<=140737488355328:=by omega
          have ht:o.take o.length=o:=zzv (by simp);simp[qhN,h1,hlt,h3,hf,h5,ht,e,hp,zzj,↓qak,↓qam,↓qal,putAt,mkA,qac,qai,qan,qaj,qbK,Ao.dv,qc1,qa6,qep,qc7,qds];exact hx' _ _ (by simp)
      · rw[if_neg hp,List.append_nil]at hx';cases o with
        |nil=>simp only[qah,qaz]at hx'⊢;simp[qhN,h1,hlt,h3,hf,e,hp,zzj,↓qak,↓qam,↓qal,putAt,mkA,qac,qai,qan,qaj,qbK,Ao.dv,qc1,qa6,qep,qc7,qds];exact hx' _ _ (by simp)
        |cons x o=>simp only[qah,qaz]at hx'⊢;simp[qhN,h1,hlt,h3,hf,e,hp,zzj,↓qak,↓qam,↓qal,putAt,mkA,qac,qai,qan,qaj,qbK,Ao.dv,qc1,qa6,qep,qc7,qds];exact hx' _ _ (by simp)
    · have hf:qbo (λa=>(g a).2) l=(g l[i]).2:=by
        conv=>lhs;rw[qqw l i hlt,qo8 _ _ _ ha,qbo,if_neg hs]
      rw[hf]at hr;have hr':=hr hs;have gs:=qae hs;generalize chL g (l.take i)=o at *
      cases o with
      |nil=>simp only[qah,qaz]at⊢;simp[qhN,h1,hlt,h3,e,hs,gs,bne,zzj,↓qak,↓qam,↓qal,putAt,mkA,qac,qai,qan,qaj,qbK,Ao.dv,qc1,qa6,qep,qc7,qds];exact hr' _ _ (by simp[Fr.get]) (by simp[Fr.get]) (by simp[qao,gh])
      |cons x o=>simp only[qah,qaz]at⊢;simp[qhN,h1,hlt,h3,e,hs,gs,bne,zzj,↓qak,↓qam,↓qal,putAt,mkA,qac,qai,qan,qaj,qbK,Ao.dv,qc1,qa6,qep,qc7,qds];exact hr' _ _ (by simp[Fr.get]) (by simp[Fr.get]) (by simp[qao,gh])
  · have:i=l.length:=by omega
    subst this;rw[List.take_length]at ha⊢;have he':=he ((qi9 _ _).2 ha);have h1:¬((l.length:Int)<l.length):=by omega
    simp[qhN];exact he'
def qOz{b:Af}{id day:Int}{p:Aj}(hp:qdM b id day=some p):p∈b.AZ.l:=by
  unfold qdM at hp;split at hp
  · exact qry hp
  · cases hp
def qsk{b:Af}{id day ev am:Int}:(qb5 b id day ev am).1=[]\/∃p∈b.AZ.l,(qb5 b id day ev am).1=p.AQ.l.filter (qcN ev):=by
  unfold qb5;split
  · exact .inl rfl
  split
  · exact .inl rfl
  split
  · exact .inl rfl
  cases hp:qdM b id day with
  |none=>exact .inl rfl
  |some p=>exact .inr ⟨p,qOz hp,rfl⟩
noncomputable def qhW(T:Tab)(b:Af)(id day am:Int)(l:CL Ao):Cy×Int:=
  if l=[]then ([],0)else if (qbI b id day am).2=0 then
    (let g:=qgc T (.l (K1 2) ((qbI b id day am).1.map V2) (qbI b id day am).1.isEmpty)
     if qbo (λf=>(g f).2) l=0 then (chL g l,0)else ([],qbo (λf=>(g f).2) l))
  else ([],(qbI b id day am).2)
noncomputable def qcv(T:Tab)(b:Af)(id day ev am:Int):Cy×Int:=
  if (qb5 b id day ev am).2=0 then qhW T b id day am (qb5 b id day ev am).1 else ([],(qb5 b id day ev am).2)
def qC2(T:Tab)(h:HEv T)(h8:H8 T)(hc:HCl T 956 (K1 4) 56)(b:Af)(hb:b.ok)(hf:∀p∈b.AZ.l,p.AQ.l.length<=1000)(id day ev am:Int) :
    T.val 717 [b.dv,I id,I day,I ev,I am]=some (.t [.d (.l (K1 2) (qcv T b id day ev am).1 (qcv T b id day ev am).1.isEmpty),.d (I (qcv T b id day ev am).2)],false):=by
  obtain⟨t0,e800⟩:=qRu T h h8 hc b hb hf id day ev am;have e801:=qRv T h.hU h.hV b id day am hb;have hfo:∀f∈(qb5 b id day ev am).1,f.ok:=by
    intro f hm;rcases qsk (b:=b) (id:=id) (day:=day) (ev:=ev) (am:=am)with e|⟨p,hp,e⟩
    · rw[e]at hm;cases hm
    · rw[e]at hm;exact (hb.2.2.2.2.1.2 p hp).2.2.2.2.2.2.2.2.2.1.2 f (List.mem_filter.1 hm).1
  have hfl:(qb5 b id day ev am).1.length<=1000:=by
    rcases qsk (b:=b) (id:=id) (day:=day) (ev:=ev) (am:=am)with e|⟨p,hp,e⟩
    · rw[e];exact zzK _
    · rw[e];exact zzL (List.length_filter_le _ _) (hf p hp)
  have hg:∀f∈(qb5 b id day ev am).1,T.val 802 [qdf f (.l (K1 2) ((qbI b id day am).1.map V2) (qbI b id day am).1.isEmpty)]=some (two (qgc T (.l (K1 2) ((qbI b id day am).1.map V2) (qbI b id day am).1.isEmpty) f)):=by intro f hm;have ho:=hfo f hm;obtain⟨V,o,q,e1,e2⟩:=qCF T h f.When ho.2.2.1 b id day am (qbI b id day am).1.isEmpty;obtain⟨V',o',q',e3,e4⟩:=qCF T h f.Amount ho.2.2.2 b id day am (qbI b id day am).1.isEmpty;exact qEY (qRw T h8 _ (qOv _ _) q q' (qRL T h8 f V _ _ o q e1 e2) (qRM T h8 f V' _ _ o' q' e3 e4))
  unfold qcv qhW;generalize qb5 b id day ev am=fp at *
  obtain⟨l,e⟩:=fp;simp only at *
  generalize (qbI b id day am).1.map V2=env at *
  generalize (qbI b id day am).1.isEmpty=te at *
  generalize (qbI b id day am).2=ee at *
  rw[qab T (h8 717 F717 rfl) rfl];by_cases h0:e=0
  · rw[if_pos h0];by_cases hl:l=[]
    · rw[if_pos hl];subst hl;simp[F717,Fr.Aa,e800,h0]
    · have l0:l.length≠0:=λc=>hl (List.length_eq_zero_iff.1 c);have l1:((l.length:Int)==0)=false:=qae (by omega);have l2:¬((l.length:Int)=0):=by omega
      have l3:l.isEmpty=false:=by cases l with|nil=>exact absurd rfl hl|cons a l=>rfl
      rw[if_neg hl];by_cases h1:ee=0
      · rw[if_pos h1];have lp:=λk r fr H=>@qJJ T l t0 env te _ hg hfl k r fr H;try simp only at lp⊢
        generalize qgc T (.l (K1 2) env te)=g at *
        simp[F717,Fr.Aa,e800,h0,l0,l1,l2,e801,h1];refine lp _ _ _ _ (λhz=>?_) (λhz fr J h10 h11 hgh=>?_) (by simp[qah,qaz])
        · rw[if_pos hz];cases hcl:chL g l with
          |nil=>simp[qah,qaz]
          |cons x o=>have ht:o.take o.length=o:=zzv (by simp);simp[qah,qaz,ht,qaN,pur,qaW,PV.AY,PV.AU,DV.AY,DV.AU]
        · rw[if_neg hz];simp[h10,h11,hgh]
      · rw[if_neg h1];have g1:=qae h1;simp[F717,Fr.Aa,e800,h0,l0,l1,l2,e801,h1,g1,bne]
  · rw[if_neg h0];have g0:=qae h0;simp[F717,Fr.Aa,e800,h0,g0,bne]
section
attribute [local simp ↓ 2000] qyZ
attribute [local simp] qmt
end
def qxs(T:Tab)(b:Af)(hf:∀p∈b.AZ.l,p.AQ.l.length<=1000)(id day ev am:Int):(qcv T b id day ev am).1.length<=1000:=by
 have h1:(qb5 b id day ev am).1.length<=1000:=by
  rcases qsk (b:=b) (id:=id) (day:=day) (ev:=ev) (am:=am)with e|⟨p,hp,e⟩
  ·rw[e];exact zzK _
  ·rw[e];exact zzL (List.length_filter_le _ _) (hf p hp)
 unfold qcv;split
 ·unfold qhW;split
  ·exact zzK _
  ·split
   ·simp only;split
    ·exact zzL (qrL _ _) h1
    ·exact zzK _
   ·exact zzK _
 ·exact zzK _
def chD(p:CB×Int):DV:=.a [.s p.1,I p.2]
def qdz:CL (CB×Int)->Int->CK Int
 |[],n=>some n
 |p::r,n=>if 1000000000000-n<p.2 then none else qdz r (n+p.2)
def zE:DV:=.a [I 0,I 0,I 0,I 0,I 0,I 0,.s [],.s [],.l (K1 3) [] true,.i .u64 0]
def qJD(T:Tab)(b:DV)(id day:Int)(key:CB)(l:CL (CB×Int))(t:CO)(hl:l.length<=1000)(ha:∀p∈l,0<p.2){k:KC (PV×CO)}{r:CG}{fr:Fr}{H:CW}
  (he:∀n,qdz l 0=some n->0<=n/\n<=1000000000000->k (.exit 0) [(46,.d (.b false)),(45,.d (I l.length)),(44,.d (I l.length)),(43,.d (.l (K1 2) (l.map chD) t)),(18,qah K0 (l.map λp=>.s p.1)),(17,.d (I n)),(12,pB 0 (l.map λp=>.s p.1)),(6,pB 1 (l.map λp=>.s p.1)),(5,.d (.s key)),(2,.d (I day)),(1,.d (I id))] (qbq K0 [some (.box (K1 10) (.d zE)),some (.box (K1 22) (.d b))] (l.map λp=>.s p.1))=r)
  (hr0:qdz l 0=none->∀fr J,fr.get 12=.p 0 0 0->fr.get 13=.d (.b false)->fr.get 14=.d (I 6)->qao fr=[]->k .ret fr (some (.box (K1 10) (.d zE))::J)=r)
  (hr1:qdz l 0=none->∀fr s J,fr.get 12=.p 1 0 0->fr.get 13=.d (.b false)->fr.get 14=.d (I 6)->qao fr=[]->k .ret fr (s::some (.box (K1 10) (.d zE))::J)=r)
  (h0:gc [1,2,5,6,12,17,18,43,44,45] 0 ⟨fr,H⟩=⟨[(45,.d (I 0)),(44,.d (I l.length)),(43,.d (.l (K1 2) (l.map chD) t)),(18,.d (.l K0 [] true)),(17,.d (I 0)),(12,.p 0 0 0),(6,.p 1 0 0),(5,.d (.s key)),(2,.d (I day)),(1,.d (I id))],[some (.box (K1 10) (.d zE)),some (.box (K1 22) (.d b))]⟩) :
  kC T.env 0 fr H (.h (.loop [1,2,5,6,12,17,18,43,44,45] qiE,k))=r:=by
 refine qcq (λq:Nat×Int=>⟨[(45,.d (I q.1)),(44,.d (I l.length)),(43,.d (.l (K1 2) (l.map chD) t)),(18,qah K0 ((l.take q.1).map λp=>.s p.1)),(17,.d (I q.2)),(12,pB 0 ((l.take q.1).map λp=>.s p.1)),(6,pB 1 ((l.take q.1).map λp=>.s p.1)),(5,.d (.s key)),(2,.d (I day)),(1,.d (I id))],qbq K0 [some (.box (K1 10) (.d zE)),some (.box (K1 22) (.d b))] ((l.take q.1).map λp=>.s p.1)⟩) (λq=>q.1<=l.length/\0<=q.2/\q.2<=1000000000000/\qdz l 0=qdz (l.drop q.1) q.2) (λq=>l.length-q.1) ?_ (0,0) ⟨zzK _,by decide,by decide,rfl⟩ (by rw[h0];rfl);rintro B-⟨i,n⟩ ⟨hi,n0,n1,hs⟩ hx;simp only at hi n0 n1 hs⊢;by_cases hlt:i<l.length
 ·have h1:(i:Int)<l.length:=by omega
  have h3:=wr1 (i:=i) (by omega);have hl:((l.take i).map λp=>DV.s p.1).length<=i:=by simp;omega
  have hp:=ha l[i] (zzs hlt);have w1:IntKind.i64.wrap (1000000000000-n)=1000000000000-n:=wrI (by omega) (by omega);rw[zzz hlt,qdz]at hs;by_cases hc:1000000000000-n<l[i].2
  ·rw[if_pos hc]at hs;have hr0:=hr0 hs;have hr1:=hr1 hs;generalize (l.take i).map (λp=>DV.s p.1)=o at *
   cases o with
   |nil=>simp only[qah,qbq,pB];simp[qiE,h1,hlt,h3,w1,hc,zzj,chD,qa6,↓qak,↓qam,↓qal,putAt,mkA,qac,qai,qan,qaj,qbK,qrJ];exact hr0 _ _ (by simp[Fr.get]) (by simp[Fr.get]) (by simp[Fr.get]) (by simp[qao,gh])
   |cons x o=>simp only[qah,qbq,pB];simp[qiE,h1,hlt,h3,w1,hc,zzj,chD,qa6,↓qak,↓qam,↓qal,putAt,mkA,qac,qai,qan,qaj,qbK,qrJ];exact hr1 _ _ _ (by simp[Fr.get]) (by simp[Fr.get]) (by simp[Fr.get]) (by simp[qao,gh])
  ·rw[if_neg hc]at hs;have w2:IntKind.i64.wrap (n+l[i].2)=n+l[i].2:=wrI (by omega) (by omega);have hx':=hx (i+1,n+l[i].2) ⟨by simp only;omega,by simp only;omega,by simp only;omega,hs⟩ (by simp only;omega);clear hx hr0 hr1 he;simp only at hx';have hm:(l.take (i+1)).map (λp=>DV.s p.1)=(l.take i).map (λp=>DV.s p.1)++[.s l[i].1]:=by rw[zzw hlt,List.map_append,zzu,List.map_nil]
   rw[hm]at hx';generalize (l.take i).map (λp=>DV.s p.1)=o at *
   cases o with
   |nil=>simp only[qah,qbq,pB,List.nil_append]at hx'⊢;simp[qiE,h1,hlt,h3,w1,w2,hc,zzj,chD,qa6];exact hx' _ _ (by simp[h3])
   |cons x o=>
    simp only[qah,qbq,pB,List.cons_append]at hx'⊢;simp only[zzn]at hl;have h5:(o.length+1+1)*16<=140737488355328:=by omega
    have ht:o.take o.length=o:=zzv (by simp);simp[qiE,h1,hlt,h3,w1,w2,hc,h5,ht,zzj,chD,qa6];exact hx' _ _ (by simp[h3])
 ·have:i=l.length:=by omega
  subst this;rw[zzF (zzt _),qdz]at hs;have he':=he n hs ⟨n0,n1⟩;rw[List.take_length];have h1:¬((l.length:Int)<l.length):=by omega
  generalize l.map (λp=>DV.s p.1)=o at *
  cases o with
  |nil=>simp only[qah,qbq,pB]at he'⊢;simp[qiE];exact he'
  |cons x o=>simp only[qah,qbq,pB]at he'⊢;simp[qiE];exact he'
abbrev Chg:=CB×Int
def jn(l:CL Chg):CB:=qgD [32] (l.map (·.1))
def qyX:∀l:CL Chg,(∀p∈l,p.1.length<=100)->(qeU [32] (l.map (·.1))).length<=101*l.length
 |[],_=>by simp[qeU]
 |p::r,h=>by have h1:=h p (zzr ..);have h2:=qyX r λq hq=>h q (zzi _ hq);simp only[zzu,qeU,zzp,zzn,List.length_nil];omega
def qHB(l:CL Chg)(h:∀p∈l,p.1.length<=100):(jn l).length<=101*l.length:=by
 cases l with
 |nil=>simp[jn,qgD]
 |cons p r=>have h1:=h p (zzr ..);have h2:=qyX r λq hq=>h q (zzi _ hq);simp only[jn,zzu,qgD,zzp,zzn];omega
def qjH(l:CL Chg):Int:=l.foldl (λn p=>IntKind.i64.wrap (n+p.2)) 0
def qQn(l:CL Chg)(p:Chg):qjH (l++[p])=IntKind.i64.wrap (qjH l+p.2):=by simp[qjH]
def qJp(T:Tab)(l:CL Chg)(t:CO)(hl:l.length<=1000){k:KC (PV×CO)}{r:CG}{fr:Fr}{H:CW}
  (he:k (.exit 0) [(9,.d (.b false)),(8,.d (I l.length)),(7,.d (I l.length)),(6,.d (.l (K1 2) (l.map chD) t)),(3,.d (I (qjH l)))] []=r)
  (h0:gc [3,6,7,8] 0 ⟨fr,H⟩=⟨[(8,.d (I 0)),(7,.d (I l.length)),(6,.d (.l (K1 2) (l.map chD) t)),(3,.d (I 0))],[]⟩) :
  kC T.env 0 fr H (.h (.loop [3,6,7,8] qqT,k))=r:=by
 refine qcq (λi:Nat=>⟨[(8,.d (I i)),(7,.d (I l.length)),(6,.d (.l (K1 2) (l.map chD) t)),(3,.d (I (qjH (l.take i))))],[]⟩) (λi=>i<=l.length) (λi=>l.length-i) ?_ 0 (zzK _) (by rw[h0];rfl);rintro B-i hi hx;by_cases hlt:i<l.length
 ·have h1:(i:Int)<l.length:=by omega
  have h3:=wr1 (i:=i) (by omega);have hx':=hx (i+1) (by omega) (by omega);rw[zzw hlt,qQn]at hx';simp[qqT,h1,hlt,h3,zzj,chD,qa6];exact hx' _ _ (by simp[h3])
 ·have:i=l.length:=by omega
  subst this;rw[List.take_length];have h1:¬((l.length:Int)<l.length):=by omega
  simp[qqT];exact he
def qQB(T:Tab)(h:H10 T)(l:CL Chg)(t:CO)(hl:l.length<=1000):T.val 1126 [.l (K1 2) (l.map chD) t]=some (.d (I (qjH l)),false):=by rw[qab T (h 1126 F1126 rfl) rfl];simp[F1126,Fr.Aa];rw[qJp T l t hl ?_ (by simp)];simp
def qb1(b:Af)(id day:Int):CB:=((qdM b id day).getD .zero).Au
def qcE(b:Af)(id day:Int)(key:CB)(l:CL Chg)(n:Int):DV:=
 .a [I 0,I day,I day,I 6,I 1,I 0,.s key,.s ((jn l).take 64),.l (K1 3) [.a [I id,I n,.s (qb1 b id day)],.a [I b.AA.Bl,I (-n),.s (qb1 b id day)]] false,.i .u64 0]
def qdo(b:Af)(id day:Int)(key:CB)(l:CL Chg)(e:Int):DV×CO×Int:=
 if e≠0\/l=[]then (zE,false,e)else match qdz l 0 with
 |none=>(zE,false,6)
 |some n=>(qcE b id day key l n,true,0)
def qhy(p:DV×CO×Int):PV:=.t [.d p.1,.d (.b p.2.1),.d (I p.2.2)]
def qQh(l:CL Chg):qlh (l.map λp=>DV.s p.1)=some (l.map (·.1)):=by
 induction l with
 |nil=>rfl
 |cons p r ih=>rw[zzu,qlh,ih];rfl
def qOw(l:Cy):(PV.d (.a l)).cells=l.map .d:=rfl
def qOX{o off len:Nat}{k:Sim.K}{t:CO}:PV.cells (.r o k off len t)=[.r o k off len t]:=rfl
def qKf{R:Type}{a b c d e f g h j:DV}{o off len:Nat}{k:Sim.K}{t:CO}{q:PV->CK R}:bo (mkP (K1 10) [.d a,.d b,.d c,.d d,.d e,.d f,.d g,.d h,.r o k off len t,.d j]) (.h q)=q (.a [.d a,.d b,.d c,.d d,.d e,.d f,.d g,.d h,.r o k off len t,.d j]):=rfl
def qF8(n:Nat)(l:Cz):fits (some n) (.a l)=(l.length==n):=rfl
def qRl(T:Tab)(h:HEv T)(h8:H8 T)(hc:HCl T 956 (K1 4) 56)(h10:H10 T)(hj:∀ds,T.val 718 ds=qjh ds)(b:Af)(hb:b.ok)(hf:∀p∈b.AZ.l,p.AQ.l.length<=1000)(id day ev am:Int)(key:CB)(l:CL Chg)(hl:(qcv T b id day ev am).1=l.map chD)(hp:∀p∈l,0<p.2/\p.1.length<=100) :
  T.val 633 [b.dv,I id,I day,I ev,I am,.s key]=some (qhy (qdo b id day key l (qcv T b id day ev am).2),false):=by
 have e1:=qC2 T h h8 hc b hb hf id day ev am;have e2:=qCO T h.hU b id day hb;have hlen:=qxs T b hf id day ev am;rw[hl,zzo]at hlen;rw[hl]at e1;generalize (qcv T b id day ev am).2=e at *
 have hjn:=qHB l λp h=>(hp p h).2;have e3:T.val 718 [.l K0 (l.map λp=>.s p.1) false,.s [32]]=some (.d (.s (jn l)),false):=by rw[hj];simp only[qjh,qQh];rw[if_pos ⟨by rw[zzo];omega,by unfold jn at hjn;omega⟩];rfl
 have hm:min ((jn l).length:Int) 64=((min 64 (jn l).length:Nat):Int):=by omega
 have g1:(min 64 (jn l).length)<=(jn l).length:=by omega
 have g2:(jn l).take (min 64 (jn l).length)=(jn l).take 64:=by
  rcases Nat.le_total 64 (jn l).length with h|h
  ·rw[Nat.min_eq_left h]
  ·rw[Nat.min_eq_right h,zzv h,zzv (zzt _)]
 rw[qab T (h10 633 F633 rfl) rfl];by_cases h0:e=0
 ·subst h0;cases l with
  |nil=>simp[F633,Fr.Aa,e1,zE,qdo,qhy]
  |cons p0 l0=>
   have hne:¬(((p0::l0).length:Int)=0):=by rw[zzn];omega
   have he:qdo b id day key (p0::l0) 0=(match qdz (p0::l0) 0 with|none=>(zE,false,6)|some n=>(qcE b id day key (p0::l0) n,true,0)):=by unfold qdo;rw[if_neg (by simp)]
   have hms:((p0::l0).map λp=>DV.s p.1)≠[]:=by simp
   rw[he];have hlp:=λk r fr H=>@qJD T b.dv id day key (p0::l0) (p0::l0).isEmpty hlen (λp h=>(hp p h).1) k r fr H;generalize p0::l0=l at *
   generalize l.map (λp=>DV.s p.1)=ms at *
   have hb0:((l.length:Int)==0)=false:=qae hne;simp[F633,Fr.Aa,e1,hne,hb0];refine hlp _ _ _ _ (λn hs hn=>?_) (λhs fr J h12 h13 h14 hgh=>?_) (λhs fr s J h12 h13 h14 hgh=>?_) (by simp[zE])
   ·rw[hs];have w1:IntKind.i64.wrap (-n)=-n:=wrI (by omega) (by omega);cases ms with
    |nil=>exact absurd rfl hms
    |cons x o=>have ht:o.take o.length=o:=zzv (by simp);simp[qah,qbq,pB,ht,e3,e2,w1,qaN,pur,qaW,PV.AY,PV.AU,DV.AY,DV.AU,↓qwO,hm,g1,g2,qa6,qOw,qOX,qi5,qF8,qKf,zzu,List.map_nil,List.cons_append,List.nil_append,List.take,List.drop,qdD,qdF,qdE,qak,qam,qal,qbK,qaj,qrJ,putAt,mkA,qac,qai,List.drop_succ_cons,List.drop_zero,List.take_succ_cons,List.take_zero];rfl
   ·rw[hs];simp[h12,h13,h14,hgh,qhy];done
   ·rw[hs];simp[h12,h13,h14,hgh,qhy];done
 ·have he:qdo b id day key l e=(zE,false,e):=by unfold qdo;rw[if_pos (.inl h0)]
  rw[he];have hb1:(e != 0)=true:=by simpa using h0
  simp[F633,Fr.Aa,e1,h0,hb1,zE,qhy]
end
def Nm(c:UInt8):Prop:=48<=c.toNat/\c.toNat<=122
def qwV(g:Ao->Int×Int):∀l:CL Ao,∃L:CL Chg,chL g l=L.map chD/\∀p∈L,0<p.2/\∃f∈l,p.1=f.Name
 |[]=>⟨[],rfl,λ_ h=>by cases h⟩
 |f::l=>by
  obtain⟨L,e,hL⟩:=qwV g l;have e2:chL g (f::l)=chE g f++chL g l:=rfl;rw[e2,e];have hL':∀p∈L,0<p.2/\∃f'∈f::l,p.1=f'.Name:=λp hm=>by obtain⟨h1,f',h2,h3⟩:=hL p hm;exact⟨h1,f',zzi _ h2,h3⟩
  unfold chE;split
  ·rename_i hp;refine⟨(f.Name,(g f).1)::L,rfl,λp hm=>?_⟩;rcases List.mem_cons.1 hm with rfl|hm
   ·exact⟨hp,f,zzr ..,rfl⟩
   ·exact hL' p hm
  ·exact⟨L,rfl,hL'⟩
def qn1(b:Af)(id day:Int)(L:CL Chg):Prop:=(∃a∈b.A7.l,a.Id=id)/\qaZ day=true/\∃p∈b.AZ.l,qb1 b id day=p.Au/\∀c∈L,∃f∈p.AQ.l,c.1=f.Name
def qF0{b:Af}{id day ev am:Int}:(qb5 b id day ev am).1=[]\/(∃a∈b.A7.l,a.Id=id)/\qaZ day=true/\∃p∈b.AZ.l,qb1 b id day=p.Au/\(qb5 b id day ev am).1=p.AQ.l.filter (qcN ev):=by
 unfold qb5;split
 ·exact .inl rfl
 rename_i h1;split
 ·exact .inl rfl
 rename_i h2;split
 ·exact .inl rfl
 split
 ·exact .inl rfl
 ·rename_i p hp;refine .inr ⟨?_,?_,p,?_,?_,rfl⟩
  ·unfold qdG at h1;cases hj:b.A7.l.findIdx? (qid id)with
   |none=>rw[hj]at h1;simp at h1
   |some j=>obtain⟨hlt,hpj,-⟩:=List.findIdx?_eq_some_iff_getElem.1 hj;exact⟨_,zzs hlt,by simpa[qid]using hpj⟩
  ·cases hv:qaZ day with
   |true=>rfl
   |false=>exact absurd (.inl hv) h2
  ·unfold qdM at hp;split at hp
   ·exact qry hp
   ·cases hp
  ·unfold qb1;rw[hp];rfl
def qFD(T:Tab)(b:Af)(hnm:∀p∈b.AZ.l,∀f∈p.AQ.l,f.Name.length<=100)(id day ev am:Int):∃L:CL Chg,(qcv T b id day ev am).1=L.map chD/\(∀p∈L,0<p.2/\p.1.length<=100)/\((qcv T b id day ev am).2≠0->L=[])/\(L≠[]->qn1 b id day L):=by
 have nil:(qcv T b id day ev am).1=[]->∃L:CL Chg,(qcv T b id day ev am).1=L.map chD/\(∀p∈L,0<p.2/\p.1.length<=100)/\((qcv T b id day ev am).2≠0->L=[])/\(L≠[]->qn1 b id day L):=λh=>⟨[],h,λ_ h=>(by cases h),λ_=>rfl,λh=>absurd rfl h⟩;by_cases hf:(qb5 b id day ev am).2=0
 ·have e1:qcv T b id day ev am=qhW T b id day am (qb5 b id day ev am).1:=by unfold qcv;rw[if_pos hf]
  by_cases hn:(qb5 b id day ev am).1=[]
  ·exact nil (by rw[e1];unfold qhW;rw[if_pos hn])
  by_cases he:(qbI b id day am).2=0
  ·by_cases hs:qbo (λf=>(qgc T (.l (K1 2) ((qbI b id day am).1.map V2) (qbI b id day am).1.isEmpty) f).2) (qb5 b id day ev am).1=0
   ·have e2:qcv T b id day ev am=(chL (qgc T (.l (K1 2) ((qbI b id day am).1.map V2) (qbI b id day am).1.isEmpty)) (qb5 b id day ev am).1,0):=by rw[e1];unfold qhW;rw[if_neg hn,if_pos he];simp only;rw[if_pos hs]
    obtain⟨L,e3,h3⟩:=qwV (qgc T (.l (K1 2) ((qbI b id day am).1.map V2) (qbI b id day am).1.isEmpty)) (qb5 b id day ev am).1;rcases qF0 (b:=b) (id:=id) (day:=day) (ev:=ev) (am:=am)with h|⟨k1,k2,p,k3,k4,k5⟩
    ·exact absurd h hn
    ·refine⟨L,by rw[e2];exact e3,λc hc=>?_,λh=>absurd (by rw[e2]) h,λ_=>⟨k1,k2,p,k3,k4,λc hc=>?_⟩⟩
     ·obtain⟨g1,f,g2,g3⟩:=h3 c hc;rw[k5]at g2;exact⟨g1,by rw[g3];exact hnm p k3 f (List.mem_filter.1 g2).1⟩
     ·obtain⟨g1,f,g2,g3⟩:=h3 c hc;rw[k5]at g2;exact⟨f,(List.mem_filter.1 g2).1,g3⟩
   ·exact nil (by rw[e1];unfold qhW;rw[if_neg hn,if_pos he];simp only;rw[if_neg hs])
  ·exact nil (by rw[e1];unfold qhW;rw[if_neg hn,if_neg he])
 ·exact nil (by unfold qcv;rw[if_neg hf])
def qCu:∀(l:CL Chg) (a n:Int),(∀p∈l,0<p.2)->0<=a->a<=1000000000000->qdz l a=some n->a<=n/\n<=1000000000000/\l.foldl (λn p=>IntKind.i64.wrap (n+p.2)) a=n/\(l≠[]->a<n)
 |[],a,n,_,h0,h1,h=>by simp only[qdz,zzb]at h;subst h;exact⟨Int.le_refl _,h1,rfl,λh=>absurd rfl h⟩
 |p::r,a,n,hp,h0,h1,h=>by
  unfold qdz at h;split at h
  ·cases h
  ·rename_i hc;have h2:=hp p (zzr ..);obtain⟨k1,k2,k3,k4⟩:=qCu r (a+p.2) n (λq hq=>hp q (zzi _ hq)) (by omega) (by omega) h;refine⟨by omega,k2,?_,λ_=>by omega⟩;rw[List.foldl_cons,wrI (by omega) (by omega)];exact k3
structure SndC (b:Af):Prop where
 cu:∀c∈b.Bh.l,qdU c.Code=true
 pl:1<=b.AA.Bl
 pr:∀p∈b.AZ.l,(∃c∈b.Bh.l,c.Code=p.Au)/\∀f∈p.AQ.l,∀c∈f.Name,Nm c
 ac:∀a∈b.A7.l,1000<=a.Id
def qyY:∀l:CL Chg,(∀p∈l,∀c∈p.1,Nm c)->∀c∈qeU [32] (l.map (·.1)),okB 32 c=true
 |[],_,c,h=>by simp[qeU]at h
 |p::r,hp,c,h=>by
  simp only[zzu,qeU,zzB,zzH]at h;rcases h with rfl|h|h
  ·rfl
  ·have:=hp p (zzr ..) c h;unfold Nm at this;simp[okB];omega
  ·exact qyY r (λq hq=>hp q (zzi _ hq)) c h
def qHC{l:CL Chg}(h:∀p∈l,∀c∈p.1,Nm c):qdj ((jn l).take 64) 32 64=true:=by
 have h1:∀c∈jn l,okB 32 c=true:=by
  cases l with
  |nil=>intro c h;simp[jn,qgD]at h
  |cons p r=>
   intro c hc;simp only[jn,zzu,qgD,zzB]at hc;rcases hc with hc|hc
   ·have:=h p (zzr ..) c hc;unfold Nm at this;simp[okB];omega
   ·exact qyY r (λq hq=>h q (zzi _ hq)) c hc
 unfold qdj;rw[zzf,List.all_eq_true,zzq];refine⟨λc hc=>h1 c (List.mem_of_mem_take hc),?_⟩;rw[zzI];exact Nat.min_le_left ..
def qhX(b:Af)(id day:Int)(l:CL Chg)(n:Int):Ag:=⟨0,day,day,6,1,0,[107],(jn l).take 64,⟨[⟨id,n,qb1 b id day⟩,⟨b.AA.Bl,-n,qb1 b id day⟩],false⟩,0⟩
def qyN(a f n:Int)(c:CB):([⟨a,n,c⟩,⟨f,-n,c⟩]:CL Ad).foldl qa1 []=[⟨0,0,c⟩]:=by
 have h:ltL ⟨0,n,c⟩ ⟨0,-n,c⟩=false:=by simp[ltL,qmB]
 have h':ltL ⟨0,-n,c⟩ ⟨0,n,c⟩=false:=by simp[ltL,qmB]
 have e:w64 (n + -n)=0:=by rw[Int.add_right_neg];rfl
 simp only[List.foldl_cons,List.foldl_nil,qa1,qco,zM,h,h',zzg,if_false,qdS,e]
def qFH{b:Af}(hb:b.ok){id day n:Int}{L:CL Chg}(hk:qn1 b id day L)(h1:1<=n)(h2:n<=1000000000000):(qhX b id day L n).ok:=by
 have hm:=mxl;obtain⟨⟨a,ha,rfl⟩,hv,p,hp,hc,-⟩:=hk;have k:∀m:Int,-9223372036854775808<=m->m<=9223372036854775807->inK .i64 m:=λm k1 k2=>by simp only[inK,Lit.wf,IntKind.min,IntKind.max,IntKind.signed,IntKind.bits,zzf,zzq,if_true];omega
 have hd:inK .i64 day:=by simp only[qaZ,zzf,zzq]at hv;exact k _ (by omega) (by omega)
 have hcl:(qb1 b a.Id day).length<=maxLen:=by rw[hc];exact (hb.2.2.2.2.1.2 p hp).2.1
 have hpl:=hb.2.2.2.1.2.2.2.2.1;have hid:=(hb.2.2.2.2.2.1.2 a ha).1;refine⟨k 0 (by decide) (by decide),hd,hd,k 6 (by decide) (by decide),k 1 (by decide) (by decide),k 0 (by decide) (by decide),?_,?_,⟨?_,?_⟩,?_⟩
 ·simp[qhX];omega
 ·simp only[qhX,zzI];omega
 ·simp[qhX];omega
 ·intro y hy;simp only[qhX,List.mem_cons,zzC,or_false]at hy;rcases hy with rfl|rfl
  ·exact⟨hid,k _ (by simp only;omega) (by simp only;omega),hcl⟩
  ·exact⟨hpl,k _ (by simp only;omega) (by simp only;omega),hcl⟩
 ·show inK .u64 0;unfold inK;decide
def qFI{b:Af}{id day n:Int}{L:CL Chg}(hs:SndC b)(hk:qn1 b id day L)(h1:1<=n)(h2:n<=1000000000000):qgd (qhX b id day L n)=0:=by
 obtain⟨⟨a,ha,hid⟩,hv,p,hp,hc,hL⟩:=hk;obtain⟨⟨cu,hcu,ecu⟩,hn⟩:=hs.pr p hp;have hcod:qdU (qb1 b id day)=true:=by rw[hc,<-ecu];exact hs.cu cu hcu
 have hid':=hs.ac a ha;have hpl:=hs.pl;have ht:qdj ((jn L).take 64) 32 64=true:=qHC λq hq c hcq=>by obtain⟨f,hf,e⟩:=hL q hq;rw[e]at hcq;exact hn f hf c hcq
 have l1:qcp ⟨id,n,qb1 b id day⟩=0:=by
  have:qiQ ⟨id,n,qb1 b id day⟩=false:=by simp[qiQ];omega
  simp[qcp,this,hcod]
 have l2:qcp ⟨b.AA.Bl,-n,qb1 b id day⟩=0:=by
  have:qiQ ⟨b.AA.Bl,-n,qb1 b id day⟩=false:=by simp[qiQ];omega
  simp[qcp,this,hcod]
 have hk:qh4 [107]=true:=by decide
 have v0:qaZ 0=true:=by decide
 have hi:=qyN id b.AA.Bl n (qb1 b id day);simp only[qgd,qhX,hk,ht,hv,v0,hi,qcQ,l1,l2,zzn,List.length_nil];simp[qiG]
section
attribute [local simp ↓] qbm qbn qbg qbz qbp qbJ qbd qbf qbw qbA qbB qbu qbv qbe qby qbj qbR qbQ qdZ qbH qbE qd8 qd7 qbl qdV qb2 qdW qdY qdX qbG qbF qd1 qd3 qd6 qd5 qd4 qd0 qd2 qd9 qbC qbD
attribute [local simp] qbh qa3 Ar Az qas qaP chg qaY runs qaM qaX PV.refs PV.Av IOp.okD IOp.Bg qbk Nat.testBit
attribute [local simp] gc Fr.keep qaH qaw qat PV.refs PV.Av qaJ gcH qaO Obj.refs PV.ren PV.Bp Obj.ren Heap.obj Fr.ren gh zzd
def qz8(T:Tab)(M:CL Chg)(t:CO)(hl:M.length<=1000)(hp:∀p∈M,0<p.2)(x q b:DV)(is:CO){k:KC (PV×CO)}{r:CG}{fr:Fr}{H:CW}
  (he:k (.exit 0) [(80,.d (.b false)),(10,.d (I M.length)),(8,.d (.b is)),(7,.p 0 0 0),(5,.d (.l (K1 2) (M.map chD) t)),(3,.p 1 0 0),(2,.p 2 0 0)] [some (.box (K1 10) (.d x)),some (.box (K1 4) (.d q)),some (.box (K1 22) (.d b))]=r)
  (h0:gc [2,3,5,7,8,10] 0 ⟨fr,H⟩=⟨[(10,.d (I 0)),(8,.d (.b is)),(7,.p 0 0 0),(5,.d (.l (K1 2) (M.map chD) t)),(3,.p 1 0 0),(2,.p 2 0 0)],[some (.box (K1 10) (.d x)),some (.box (K1 4) (.d q)),some (.box (K1 22) (.d b))]⟩) :
  kC T.env 0 fr H (.h (.loop [2,3,5,7,8,10] qn7,k))=r:=by
 refine qcq (λi:Nat=>⟨[(10,.d (I i)),(8,.d (.b is)),(7,.p 0 0 0),(5,.d (.l (K1 2) (M.map chD) t)),(3,.p 1 0 0),(2,.p 2 0 0)],[some (.box (K1 10) (.d x)),some (.box (K1 4) (.d q)),some (.box (K1 22) (.d b))]⟩) (λi=>i<=M.length) (λi=>M.length-i) ?_ 0 (zzK _) (by rw[h0];rfl);rintro B-i hi hx;by_cases hlt:i<M.length
 ·have h1:(i:Int)<M.length:=by omega
  have h3:=wr1 (i:=i) (by omega);have hx':=hx (i+1) (by omega) (by omega);have hpp:=hp M[i] (zzs hlt);have g:¬(M[i].2<1):=by omega
  simp[qn7,h1,hlt,h3,zzj,chD,qa6,g];exact hx' _ _ (by simp[h3])
 ·have:i=M.length:=by omega
  subst this;have h1:¬((M.length:Int)<M.length):=by omega
  simp[qn7];exact he
def tkF(id fe n:Int):Nat->Int
 |0=>0
 |1=>n
 |_=>if fe=id then 0 else n
def qJq(T:Tab)(b:Af)(m:DV)(i d ev am n:Int)(M:CL Chg)(hn:0<=n)(hn1:n<=1000000000000){k:KC (PV×CO)}{r:CG}{fr:Fr}{H:CW}
  (he:k (.exit 2) [(107,.d (.b false)),(12,.d (I 2)),(11,.d (I (tkF i b.AA.Bl n 2))),(7,.p 0 0 0),(5,.d m),(3,.p 1 0 0),(2,.p 2 0 0)] [some (.box (K1 10) (.d (qcE b i d [107] M n))),some (.box (K1 4) (.d (.a [I i,I d,I ev,I am]))),some (.box (K1 22) (.d b.dv))]=r)
  (h0:gc [2,3,5,7,11,12] 0 ⟨fr,H⟩=⟨[(12,.d (I 0)),(11,.d (I 0)),(7,.p 0 0 0),(5,.d m),(3,.p 1 0 0),(2,.p 2 0 0)],[some (.box (K1 10) (.d (qcE b i d [107] M n))),some (.box (K1 4) (.d (.a [I i,I d,I ev,I am]))),some (.box (K1 22) (.d b.dv))]⟩) :
  kC T.env 0 fr H (.h (.loop [2,3,5,7,11,12] qj6,k))=r:=by
 refine qcq (λj:Nat=>⟨[(12,.d (I j)),(11,.d (I (tkF i b.AA.Bl n j))),(7,.p 0 0 0),(5,.d m),(3,.p 1 0 0),(2,.p 2 0 0)],[some (.box (K1 10) (.d (qcE b i d [107] M n))),some (.box (K1 4) (.d (.a [I i,I d,I ev,I am]))),some (.box (K1 22) (.d b.dv))]⟩) (λj=>j<=2) (λj=>2-j) ?_ 0 (zzK _) (by rw[h0];rfl);rintro B-j hj hx;have w0:IntKind.i64.wrap (0+n)=n:=by rw[Int.zero_add];exact wrI (by omega) (by omega)
 have wn:IntKind.i64.wrap n=n:=wrI (by omega) (by omega);have v1:IntKind.i64.wrap 1=1:=rfl;have v2:IntKind.i64.wrap 2=2:=rfl;have w1:IntKind.i64.wrap (n + -n)=0:=by rw[Int.add_right_neg];rfl
 match j,hj,hx with
 |0,_,hx=>have hx':=hx 1 (by omega) (by omega);clear hx;simp only[tkF]at hx'⊢;simp[qj6,qcE,qa6,w0];exact hx' _ _ (by simp[qcE,wn,v1])
 |1,_,hx=>
  have hx':=hx 2 (by omega) (by omega);clear hx;by_cases g:b.AA.Bl=i
  ·simp only[tkF,g]at hx'⊢;simp[qj6,qcE,qa6,w1,g];exact hx' _ _ (by simp[qcE,v2,g])
  ·have g1:(b.AA.Bl==i)=false:=by simpa using g
   simp only[tkF,g]at hx'⊢;simp[qj6,qcE,qa6,g,g1];exact hx' _ _ (by simp[qcE,v2])
 |2,_,hx=>simp[qj6,qcE,qa6];exact he
end
end
def qpO{α:Type}{f:α->DV}{P:α->Prop}:∀{es:Cy},(∀e∈es,∃x,e=f x/\P x)->∃l:CL α,es=l.map f/\∀y∈l,P y
 |[],_=>⟨[],rfl,λy hy=>by cases hy⟩
 |e::es,h=>by
  obtain⟨x,hx,px⟩:=h e (zzr ..);obtain⟨l,hl,pl⟩:=qpO λe' he=>h e' (zzi _ he);refine⟨x::l,by rw[hx,hl];rfl,λy hy=>?_⟩;rcases List.mem_cons.1 hy with rfl|hy
  ·exact px
  ·exact pl y hy
def qI9{d:Nat}{cs:Cy}{e:DV}(he:mkD (K1 3) cs=some e)(h:HsL d qCv cs):∃x:Ad,e=x.dv/\x.ok:=by obtain⟨w1,r1,rfl,⟨a,rfl,h1⟩,c2⟩:=qa0 h;obtain⟨w2,r2,rfl,⟨b,rfl,h2⟩,c3⟩:=qa0 c2;obtain⟨w3,r3,rfl,⟨s,rfl,h3⟩,c4⟩:=qa0 c3;obtain rfl:=qck c4;exact⟨⟨a,b,s⟩,(Option.some.inj he).symm,h1,h2,h3⟩
def qFJ{d:Nat}{x:DV}(h:HsK d (K1 10,qnQ) x):∃e:Ag,x=e.dv/\e.ok:=by
 obtain⟨cs,c1,c2⟩:=h;obtain⟨w1,r1,rfl,⟨a1,rfl,h1⟩,d1⟩:=qa0 c2;obtain⟨w2,r2,rfl,⟨a2,rfl,h2⟩,d2⟩:=qa0 d1;obtain⟨w3,r3,rfl,⟨a3,rfl,h3⟩,d3⟩:=qa0 d2;obtain⟨w4,r4,rfl,⟨a4,rfl,h4⟩,d4⟩:=qa0 d3;obtain⟨w5,r5,rfl,⟨a5,rfl,h5⟩,d5⟩:=qa0 d4;obtain⟨w6,r6,rfl,⟨a6,rfl,h6⟩,d6⟩:=qa0 d5;obtain⟨w7,r7,rfl,⟨a7,rfl,h7⟩,d7⟩:=qa0 d6;obtain⟨w8,r8,rfl,⟨a8,rfl,h8⟩,d8⟩:=qa0 d7;obtain⟨w9,r9,rfl,⟨es,t,rfl,h9,_,h9b⟩,d9⟩:=qa0 d8;obtain⟨w10,r10,rfl,⟨a10,rfl,h10⟩,d10⟩:=qa0 d9;obtain rfl:=qck d10;obtain⟨l,rfl,hl⟩:=qpO (f:=Ad.dv) (P:=Ad.ok) (es:=es) λe he=>by obtain⟨cs,q1,q2⟩:=h9b e he;exact qI9 q1 q2
 refine⟨⟨a1,a2,a3,a4,a5,a6,a7,a8,⟨l,t⟩,a10⟩,(Option.some.inj c1).symm,h1,h2,h3,h4,h5,h6,h7,h8,⟨?_,hl⟩,h10⟩;simpa using h9
def qI8(x:Ad):(Lit.int .i64 (qcp x)).wf=true:=by unfold qcp;split<;>(try split)<;>decide
def qzY:∀l:CL Ad,(Lit.int .i64 (qcQ l)).wf=true
 |[]=>by decide
 |x::l=>by
  unfold qcQ;split
  ·exact qzY l
  ·exact qI8 x
def qEZ(e:Ag):(Lit.int .i64 (qgd e)).wf=true:=by
 unfold qgd;split
 ·split
  ·split
   ·decide
   ·split
    ·split<;>decide
    ·exact qzY _
  ·decide
 ·decide
def qGD(T:Tab)(hP:HP T):qap T 679 quQ:=by
 intro d ds hd;cases ds with
 |nil=>exact hd.elim
 |cons x ds=>
  cases ds with
  |cons=>exact hd.2.elim
  |nil=>obtain⟨e,rfl,he⟩:=qFJ hd.1;exact⟨[I (qgd e)],false,qRo T hP e he,qcO (qEZ e),trivial⟩
section
attribute [local simp ↓] qgR qgP qgH qgQ qgE qgI qgF qgG sqK blK lpK qgW qgU qgS qgV qgT qgy qgA qhA qf9 qf7 qf8 qge qfB qfC qfl qfo qfA qfE qfn qfF qfu qfw qfx qfy qfD qfz qfm qfp qfq qfr qfv qf5 qf2 qfI qfH qfQ qfJ qdn qdT qfK qfL qgY qeX qgX qhv qe6 qfX qfY qfR qfT qfS qeN qf6 qeO qfN qf1 qfV qfU qfP qfO qf0 qf3 qfM qfZ qgz qeM qe5 qgo qg9 qcF qgp qeP qeQ qf4 qdh qhu qfs qga qgb qg2 qhw qgZ qgJ qgK qgL qgM qgN qgO qft qgn qeL qiM qiN qiK qiL qiI qhS qiS qiO qjq qiP qjG qkq qfW
attribute [local simp] qcD qg4 qg5 qgu qgv qgj qgk qhs qht qgr qgs rd IOp.adds qar gh nid rgK rdS qgw qgx qha qhb qhf qhg qhj qhe qhi qhh qfg qfe qff qhd qhc qgm qgl qhl qhk qhm qhn qgq qhZ qh0 qds qia qbL qif qjz qi8 qjy qjx
section
attribute [local simp ↓] qbm qbn qbg qbz qbp qbJ qbd qbf qbw qbA qbB qbu qbv qbe qby qbj qbR qbQ qdZ qbH qbE qd8 qd7 qbl qdV qb2 qdW qdY qdX qbG qbF qd1 qd3 qd6 qd5 qd4 qd0 qd2 qd9 qbC qbD
attribute [local simp] qbh qa3 Ar Az qas qaP chg qaY runs qaM qaX PV.refs PV.Av IOp.okD IOp.Bg qbk Nat.testBit
attribute [local simp] gc Fr.keep qaH qaw qat PV.refs PV.Av qaJ gcH qaO Obj.refs PV.ren PV.Bp Obj.ren Heap.obj Fr.ren gh zzd
def qGs{d:Nat}{cs:Cy}{e:DV}(he:mkD (K1 4) cs=some e)(h:HsL d tGl cs):∃x:AGl,e=x.dv/\x.ok:=by obtain⟨w1,r1,rfl,⟨a,rfl,h1⟩,c2⟩:=qa0 h;obtain⟨w2,r2,rfl,⟨b,rfl,h2⟩,c3⟩:=qa0 c2;obtain⟨w3,r3,rfl,⟨c,rfl,h3⟩,c4⟩:=qa0 c3;obtain⟨w4,r4,rfl,⟨s,rfl,h4⟩,c5⟩:=qa0 c4;obtain rfl:=qck c5;exact⟨⟨a,b,c,s⟩,(Option.some.inj he).symm,h1,h2,h3,h4⟩
def qGu{d:Nat}{es:Cy}{t:CO}(h:HsK d (K0,[.l (K1 4) 3518437208883 tGl]) (.l (K1 4) es t)):∃l:CL AGl,es=l.map AGl.dv/\∀y∈l,y.ok:=by obtain⟨cs,q1,q2⟩:=h;obtain⟨w,r,rfl,⟨es',t',e,h3,h4,h5⟩,d3⟩:=qa0 q2;obtain rfl:=qck d3;have e1:w=.l (K1 4) es t:=Option.some.inj q1;rw[e1]at e;cases e;exact qpO λe he=>by obtain⟨cs,q1,q2⟩:=h5 e he;exact qGs q1 q2
def qDD(T:Tab)(hS:HS T):qap T 1102 qBX:=qaI (hS 1102 qln rfl) qHL λ_=>qav (qyt T hS) (qaA)
abbrev AW(l:Cy):Prop:=∀x∈l,∃n,x=I n/\(Lit.int .i64 n).wf=true
def qz7(T:Tab){Q:PV×CO->Prop}(gl:CL AGl)(t:CO)(root:Int)(i:Nat)(hi:i<gl.length)(hgl:gl.length<=3518437208883)(L:Cy)(hL:AW L)(hl:L.length<=3518437208883){k:KC (PV×CO)}{fr:Fr}{H:CW}(j0:Nat)(hj0:j0<=L.length)
  (hk:∀j:Nat,j<=L.length->Anx Q (k (.exit 2) [(49,.d (.b false)),(7,.d (I j)),(6,.d (I i)),(5,qah K0 L),(1,.d (I root)),(0,.d (.l (K1 4) (gl.map AGl.dv) t))] (qaz K0 L)))
  (h0:gc [0,1,5,6,7] 0 ⟨fr,H⟩=⟨[(7,.d (I j0)),(6,.d (I i)),(5,qah K0 L),(1,.d (I root)),(0,.d (.l (K1 4) (gl.map AGl.dv) t))],qaz K0 L⟩) :
  Anx Q (kC T.env 0 fr H (.h (.loop [0,1,5,6,7] qqS,k))):=by
 refine qb8 (λj:Nat=>⟨[(7,.d (I j)),(6,.d (I i)),(5,qah K0 L),(1,.d (I root)),(0,.d (.l (K1 4) (gl.map AGl.dv) t))],qaz K0 L⟩) (λj=>j<=L.length) id ?_ j0 hj0 h0;rintro B-j hj hx;have hkj:=hk j hj;cases j with
 |zero=>simp only[Int.ofNat_zero]at hkj;simp[qqS];exact hkj
 |succ j=>
  have hov:qah K0 L=.r 0 K0 0 L.length false:=by cases L with|nil=>simp at hj|cons x r=>rfl
  have hoo:qaz K0 L=[some (.sl K0 0 L)]:=by cases L with|nil=>simp at hj|cons x r=>rfl
  have hx':=hx j (by omega) (by show j<j+1;omega);simp only[hov,hoo]at hkj hx'⊢;obtain⟨n,hn,hnw⟩:=hL L[j] (zzs (by omega));have hn':L[j]? = some (I n):=by rw[zze (by omega),hn]
  have sd:∀v,qcI K0 v 0 K0=some v:=λv=>rfl;have c1:((j+1:Nat):Int)=(j:Int)+1:=by omega
  have g1:(0:Int)<(j:Int)+1:=by omega
  have g2:IntKind.i64.wrap ((j:Int)+1-1)=j:=by rw[show (j:Int)+1-1=j by omega];exact wrI (by omega) (by omega)
  have g6:IntKind.i64.wrap (j:Int)=j:=wrI (by omega) (by omega);have g3:(j:Int)<L.length:=by omega
  have g4:(i:Int)<gl.length:=by omega
  have g5:j<L.length:=by omega
  rw[c1]at hkj⊢;simp[qqS,g1,g2,g6,g3,g4,g5,↓qcu,hi,hn,sd,zzj];refine qcg (λh=>?_) (λh=>?_)
  ·simp[g6];exact hx' _ _ (by simp)
  ·exact hkj
def qQy(T:Tab)(hS:HS T)(gl:CL AGl)(t:CO)(hgl:gl.length<=3518437208883)(hok:∀y∈gl,y.ok){d:Nat}(hX:HsK d (K0,[.l (K1 4) 3518437208883 tGl]) (.l (K1 4) (gl.map AGl.dv) t))(root:Int)(hr:(Lit.int .i64 root).wf=true):Anx (IsL 3518437208883) (T.val 1101 [.l (K1 4) (gl.map AGl.dv) t,I root]):=by
 rw[qab T (hS 1101 F1101 rfl) rfl];simp[F1101,Fr.Aa];refine qb8 (λq:Nat×Cy=>⟨[(6,.d (I q.1)),(5,qah K0 q.2),(1,.d (I root)),(0,.d (.l (K1 4) (gl.map AGl.dv) t))],qaz K0 q.2⟩) (λq=>q.1<=gl.length/\q.2.length<=q.1/\AW q.2) (λq=>gl.length-q.1) ?_ (0,[]) ⟨zzK _,zzK _,λx hx=>by cases hx⟩ (by simp[qah,qaz]);rintro B-⟨i,L⟩ ⟨hi,hl,hw⟩ hx;simp only at hi hl hw⊢;by_cases hlt:i<gl.length
 ·have h1:(i:Int)<gl.length:=by omega
  have h3:=wr1 (i:=i) (by omega);have wi:(Lit.int .i64 gl[i].Id).wf=true:=(hok _ (zzs hlt)).1;obtain⟨b1,own1,e596⟩:=qcs (qwk T hS) d (ds:=[.l (K1 4) (gl.map AGl.dv) t,I gl[i].Id]) ⟨hX,qcO wi,trivial⟩;obtain⟨b2,own2,e1102⟩:=qcs (qDD T hS) d (ds:=[.l (K1 4) (gl.map AGl.dv) t,I gl[i].Id,I root]) ⟨hX,qcO wi,qcO hr,trivial⟩;have hsame:=hx (i+1,L) ⟨by simp only;omega,by simp only;omega,hw⟩ (by simp only;omega);have hins:∀A C:Cy,A.length+C.length=L.length->AW (A++I gl[i].Id::C)->_:=λA C hac haw=>hx (i+1,A++I gl[i].Id::C) ⟨by simp only;omega,by simp only[zzp,zzn];omega,haw⟩ (by simp only;omega);clear hx;simp only at hsame hins;cases L with
  |nil=>
   simp only[qah,qaz]at hsame⊢;cases b1 with
   |true=>simp[qfh,h1,hlt,h3,e596,zzj];exact hsame _ _ (by simp)
   |false=>
    cases b2 with
    |false=>simp[qfh,h1,hlt,h3,e596,e1102,zzj];exact hsame _ _ (by simp)
    |true=>
     simp[qfh,h1,hlt,h3,e596,e1102,zzj];refine qz7 T gl t root i hlt hgl [] hw (by simp) 0 (zzt _) (λj hj=>?_) (by simp[qah,qaz]);have hj0:j=0:=by simpa using hj
     subst hj0;have hh:=hins [] [] (by simp) (qmx wi hw);simp only[List.nil_append,qah,qaz]at hh⊢;simp[h1,hlt,h3,↓qiJ,↓qkn,zzj,qPS,qPT];exact hh _ _ (by simp)
  |cons x r=>
   have hov:qah K0 (x::r)=.r 0 K0 0 (x::r).length false:=rfl;have hoo:qaz K0 (x::r)=[some (.sl K0 0 (x::r))]:=rfl;have hL0:(x::r)≠[]:=by simp
   generalize x::r=L at *
   simp only[hov,hoo]at hsame⊢;cases b1 with
   |true=>simp[qfh,h1,hlt,h3,e596,zzj];exact hsame _ _ (by simp)
   |false=>
    cases b2 with
    |false=>simp[qfh,h1,hlt,h3,e596,e1102,zzj];exact hsame _ _ (by simp)
    |true=>
     simp[qfh,h1,hlt,h3,e596,e1102,zzj];refine qz7 T gl t root i hlt hgl L hw (by omega) L.length (zzt _) (λj hj=>?_) (by rw[hov,hoo];simp);rw[hov,hoo];have s1:=qCi L j hj;have s2:=qCj L j hj;have hac:(L.take j).length+(L.drop j).length=L.length:=by rw[zzI,zzJ];omega
     have haw:AW (L.take j++I gl[i].Id::L.drop j):=by
      intro y hy;rcases zzB.1 hy with hy|hy
      ·exact hw y (List.mem_of_mem_take hy)
      ·rcases List.mem_cons.1 hy with rfl|hy
       ·exact⟨_,rfl,wi⟩
       ·exact hw y (List.mem_of_mem_drop hy)
     have hh:=hins _ _ hac haw;have hC:List.take (L.length-j) (L.drop j)=L.drop j:=zzv (by rw[zzJ];omega);have gj:(j:Int)<=L.length:=by omega
     cases j with
     |zero=>
      have s1:∀H,slA (some (.sl K0 0 L)::H) K0 (.r 0 K0 0 L.length false) none (some (.d (I 0))) none=some (.r 0 K0 0 0 false):=qCi L 0 hj;have s2:∀H,slA (some (.sl K0 0 L)::H) K0 (.r 0 K0 0 L.length false) (some (.d (I 0))) none none=some (.r 0 K0 0 L.length false):=qCj L 0 hj;simp only[List.take_zero,List.drop_zero,List.nil_append,Nat.sub_zero]at hh hC;have b8:(1+L.length)*8<=140737488355328:=by omega
      have hlen:L.length+1=1+L.length:=by omega
      simp[h1,hlt,h3,↓qiJ,↓qkn,↓qko,hL0,zzj,s1,s2,hC,b8];exact hh _ _ (by simp[qah,qaz];omega)
     |succ m=>
      obtain⟨n,hn,hnw⟩:=hw L[m] (zzs (by omega));have c1:((m+1:Nat):Int)=(m:Int)+1:=by omega
      have g1:(0:Int)<(m:Int)+1:=by omega
      have g6:IntKind.i64.wrap (m:Int)=m:=wrI (by omega) (by omega);have g3:(m:Int)<L.length:=by omega
      have g5:m<L.length:=by omega
      have gj2:(m:Int)+1<=L.length:=by omega
      have gj3:m+1<=L.length:=hj;have gm:(0:Int)<=(m:Int)+1:=by omega
      rw[c1]at s1 s2⊢;simp[h1,hlt,h3,g1,g6,g3,g5,↓qcu,hn,sdK,zzj];refine qcg (λh=>?_) (λh=>?_)
      ·simp[h1,h3];exact hsame _ _ (by simp)
      ·have hA:List.take (m+1) L≠[]:=by intro c;have:=congrArg List.length c;rw[zzI,List.length_nil]at this;omega
       have hAl:min (m+1) L.length=m+1:=by omega
       have b8:(m+1)*8<=140737488355328:=by omega
       have b9:(m+1+1)*8<=140737488355328:=by omega
       have b10:(m+1+1+(L.length-(m+1)))*8<=140737488355328:=by omega
       have hAt:List.take (m+1) (List.take (m+1) L)=List.take (m+1) L:=zzv (by rw[zzI];omega);have hAt2:List.take (m+1+1) (List.take (m+1) L++[I gl[i].Id])=List.take (m+1) L++[I gl[i].Id]:=zzv (by rw[zzp,zzI];simp;omega);have l2:m+1+(L.length-(m+1))=L.length:=by omega
       by_cases hB:List.drop (m+1) L=[]
       ·have hBl:L.length-(m+1)=0:=by rw[<-zzJ,hB];rfl
        rw[hB]at hh;simp[h1,hlt,h3,↓qiJ,↓qkn,↓qko,hA,hB,hAl,hBl,hAt,hAt2,zzj,s1,s2,hC,b8,b9,b10,gj3,l2];rw[(qp6 (by simp)).1,(qp6 (by simp)).2]at hh;exact hh _ _ (by simp[hAl])
       ·simp[h1,hlt,h3,↓qiJ,↓qkn,↓qko,hA,hB,hAl,hAt,hAt2,zzj,s1,s2,hC,b8,b9,b10,gj3,l2];rw[(qp6 (by simp)).1,(qp6 (by simp)).2]at hh;exact hh _ _ (by simp[hAl];omega)
 ·have h1:¬((i:Int)<gl.length):=by omega
  cases L with
  |nil=>simp[qfh,h1,qah,qaz];exact qaf ⟨[],_,rfl,by simp,hw⟩
  |cons x r=>simp[qfh,h1,qah,qaz];exact qaf ⟨x::r,_,rfl,by omega,hw⟩
def qGB(T:Tab)(hS:HS T):qap T 1101 qux:=by intro d ds hd;obtain⟨es,t,n,rfl,h1,hn,hle⟩:=glI hd;obtain⟨gl,rfl,hok⟩:=qGu h1;obtain⟨r,e,hr⟩:=qQy T hS gl t (by simpa using hle) hok h1 n hn;obtain⟨vs,own,rfl,hv⟩:=qyO (d:=d) hr (by omega);exact⟨vs,own,e,hv⟩
abbrev TWA(l:CL (CB)):Prop:=∀s∈l,s.length<=maxLen
def qPV(es:Cy)(t:CO)(j:Nat)(hj:j<=es.length)(H:CW):slA H K0 (.d (.l K0 es t)) none (some (.d (I j))) none=some (.d (.l K0 (es.take j) (t&&j==es.length))):=by have h1:(0:Int)<=(j:Int)/\(j:Int)<=(es.length:Int):=⟨by omega,by omega⟩;simp[slA,bnd,asI,K.eq,h1]
def qPW(es:Cy)(t:CO)(j:Nat)(hj:j<=es.length)(H:CW):slA H K0 (.d (.l K0 es t)) (some (.d (I j))) none none=some (.d (.l K0 (es.drop j) t)):=by have h1:(0:Int)<=(j:Int)/\(j:Int)<=(es.length:Int):=⟨by omega,by omega⟩;simp[slA,bnd,asI,K.eq,h1]
def qDs(m:Nat)(r:PV×CO):Prop:=∃(L:CL (CB)) (own:CO),r=(.d (.l K0 (L.map DV.s) false),own)/\L.length<=m/\TWA L/\L≠[]
def qC6(T:Tab)(hS:HS T)(L:CL (CB))(t:CO)(hL:L.length<=1000)(hw:TWA L)(s:CB)(hs:s.length<=maxLen):Anx (qDs (L.length+1)) (T.val 953 [.l K0 (L.map DV.s) t,.s s]):=by
 rw[qab T (hS 953 F953 rfl) rfl];simp[F953,Fr.Aa];refine qb8 (λk:Nat=>⟨[(5,.d (I k)),(1,.d (.s s)),(0,.d (.l K0 (L.map DV.s) t))],[]⟩) (λk=>k<=L.length) (λk=>L.length-k) ?_ 0 (zzK _) (by simp);rintro B-k hk hx;have tail:∀(c:CL (Nat×PV)->CG),True:=λ_=>trivial;clear tail;have s1:=qPV (L.map DV.s) t k (by simpa using hk);have s2:=qPW (L.map DV.s) t k (by simpa using hk);have hw':TWA (L.take k++s::L.drop k):=by
  intro y hy;rcases zzB.1 hy with hy|hy
  ·exact hw y (List.mem_of_mem_take hy)
  ·rcases List.mem_cons.1 hy with rfl|hy
   ·exact hs
   ·exact hw y (List.mem_of_mem_drop hy)
 have hll:(L.take k++s::L.drop k).length<=L.length+1:=by rw[zzp,zzn,zzI,zzJ];omega
 have b1:k*16<=140737488355328:=by omega
 have b2:(k+1)*16<=140737488355328:=by omega
 have b3:(k+1+(L.length-k))*16<=140737488355328:=by omega
 have m1:min k L.length=k:=by omega
 have gk:(k:Int)<=L.length:=by omega
 have at2:List.take (k+1) (List.take k (L.map DV.s)++[DV.s s])=List.take k (L.map DV.s)++[DV.s s]:=zzv (by rw[zzp,zzI,zzo];simp;omega);have at1:List.take k (List.take k (L.map DV.s))=List.take k (L.map DV.s):=zzv (by rw[zzI];omega);have le1:k+1+(L.length-k)<=k+(L.length-k+1):=by omega
 have at3:List.take (k+1+(L.length-k)) (List.take k (L.map DV.s)++DV.s s::List.drop k (L.map DV.s))=List.take k (L.map DV.s)++DV.s s::List.drop k (L.map DV.s):=zzv (by simp only[zzp,zzI,zzn,zzJ,zzo];omega);have fin:(L.take k++s::L.drop k).map DV.s=List.take k (L.map DV.s)++DV.s s::List.drop k (L.map DV.s):=by simp
 by_cases hlt:k<L.length
 ·have h1:(k:Int)<L.length:=by omega
  have h3:IntKind.i64.wrap ((k:Int)+1)=(k:Int)+1:=wrI (by omega) (by omega);have hx':=hx (k+1) (by omega) (by omega);have hB:List.drop k (L.map DV.s)≠[]:=by intro c;have:=congrArg List.length c;rw[zzJ,zzo,List.length_nil]at this;omega
  simp[qv4,h1,hlt,h3,↓qmE,zzj];refine qcg (λh=>?_) (λh=>?_)
  ·simp[h1,h3];exact hx' _ _ (by simp)
  ·simp[h1,hlt,h3,zzj];refine qcg (λh=>?_) (λh=>?_)
   ·cases t
    ·simp;exact qaf ⟨L,_,rfl,by omega,hw,λc=>by rw[c]at hlt;simp at hlt⟩
    ·simp;exact qaf ⟨L,_,rfl,by omega,hw,λc=>by rw[c]at hlt;simp at hlt⟩
   ·simp[h1,hlt,h3,s1,s2,↓qkn,↓qko,hB,b1,b2,b3,m1,gk,at1,at2,sdK,le1];exact qaf ⟨_,_,by rw[at3,fin],hll,hw',by simp⟩
 ·have hk2:k=L.length:=by omega
  have h1:¬((k:Int)<L.length):=by omega
  have hB:List.drop k (L.map DV.s)=[]:=zzF (by simp;omega);have b0:L.length-k=0:=by omega
  simp[qv4,h1,s1,s2,↓qkn,↓qko,hB,b0,b1,b2,b3,m1,gk,at1,at2,sdK];exact qaf ⟨_,_,by rw[fin,hB],hll,hw',by simp⟩
def qrT:∀(es:Cy) (n m:Int),n<=qci es n m
 |[],n,m=>by unfold qci;omega
 |e::es,n,m=>by
  unfold qci;split
  ·rename_i h;have h1:=(qoJ e (m-n) (by omega)).1;have:=qrT es (n+qaQ e (m-n)) m;omega
  ·omega
def qFk{e:DV}{es:Cy}{n m:Int}(h:qci (e::es) n m<=m):n<=m/\1<=qaQ e (m-n)/\qaQ e (m-n)<=m-n/\qci (e::es) n m=qci es (n+qaQ e (m-n)) m:=by
 have h0:=qrT (e::es) n m;have hn:n<=m:=by omega
 have e1:qci (e::es) n m=qci es (n+qaQ e (m-n)) m:=by conv=>lhs;unfold qci;rw[if_pos hn]
 have h1:=(qoJ e (m-n) (by omega)).1;have h2:=qrT es (n+qaQ e (m-n)) m;exact⟨hn,h1,by omega,e1⟩
def qn4(m:Int)(r:PV×CO):Prop:=∃(L:CL (CB)) (own:CO),r=(.d (.l K0 (L.map DV.s) false),own)/\(L.length:Int)<=m/\TWA L
def fNA:CO->CL (CB)->Fr
 |true,_=>[(3,.r 0 K0 0 1 false),(1,.p 1 0 0)]
 |false,L=>[(3,.d (.l K0 (L.map DV.s) L.isEmpty)),(1,.p 0 0 0)]
def hNA(x:Ae):CO->CL (CB)->CW
 |true,L=>[some (.sl K0 0 (L.map DV.s)),some (.box (K1 4) (.d x.dv))]
 |false,_=>[some (.box (K1 4) (.d x.dv))]
def qAc(T:Tab)(hS:HS T){Q:PV×CO->Prop}(x:Ae)(i:Nat)(N:CL (CB))(hN0:TWA N)(sh:CO)(L:CL (CB))(hsh:sh=true->L.length=1)(hL:TWA L)(hl:L.length+N.length<=500){k:KC (PV×CO)}{fr:Fr}{H:CW}
  (hk:∀sh' L',(sh'=true->L'.length=1)->TWA L'->L'.length<=L.length+N.length->Anx Q (k (.exit 2) ((31,.d (.b false))::(6,.d (I N.length))::(5,.d (.l K0 (N.map DV.s) false))::(4,.d (I i))::fNA sh' L') (hNA x sh' L')))
  (h0:gc [1,3,4,5,6] 0 ⟨fr,H⟩=⟨(6,.d (I 0))::(5,.d (.l K0 (N.map DV.s) false))::(4,.d (I i))::fNA sh L,hNA x sh L⟩) :
  Anx Q (kC T.env 0 fr H (.h (.loop [1,3,4,5,6] qmq,k))):=by
 refine qb8 (λq:Nat×CO×CL (CB)=>⟨(6,.d (I q.1))::(5,.d (.l K0 (N.map DV.s) false))::(4,.d (I i))::fNA q.2.1 q.2.2,hNA x q.2.1 q.2.2⟩) (λq=>q.1<=N.length/\(q.2.1=true->q.2.2.length=1)/\TWA q.2.2/\q.2.2.length<=L.length+q.1) (λq=>N.length-q.1) ?_ (0,sh,L) ⟨zzK _,hsh,hL,by simp⟩ h0;rintro B-⟨j,sh',L'⟩ ⟨hj,hs',hw',hl'⟩ hx;simp only at hj hs' hw' hl'⊢;have hkj:=hk sh' L' hs' hw' (by omega);clear hk;by_cases hlt:j<N.length
 ·have h1:(j:Int)<N.length:=by omega
  have h3:IntKind.i64.wrap ((j:Int)+1)=(j:Int)+1:=wrI (by omega) (by omega);have hs:=hN0 N[j] (zzs hlt);cases sh' with
  |true=>
   obtain⟨s0,rfl⟩:∃s0,L'=[s0]:=by
    have:=hs' rfl
    match L',this with
    |[s0],_=>exact⟨s0,rfl⟩
   obtain⟨r,e953,M,own,rfl,hm,hmw,hm0⟩:=qC6 T hS [s0] false (by simp) hw' N[j] hs;have hme:M.isEmpty=false:=by cases M<;>first|rfl|exact absurd rfl hm0
   have hx':=hx (j+1,false,M) ⟨by simp only;omega,(λc=>by cases c),hmw,by simp only at hm⊢;simp only[zzn,List.length_nil]at hm hl';omega⟩ (by simp only;omega);clear hx;simp only[fNA,hNA,hme]at hx'⊢;simp only[zzu,List.map_nil]at e953;simp[qmq,h1,hlt,h3,e953,zzj,qaN,pur,qaW,PV.AY,PV.AU,DV.AY,DV.AU];exact hx' _ _ (by simp[frz,qc9,Heap.put])
  |false=>
   obtain⟨r,e953,M,own,rfl,hm,hmw,hm0⟩:=qC6 T hS L' L'.isEmpty (by omega) hw' N[j] hs;have hme:M.isEmpty=false:=by cases M<;>first|rfl|exact absurd rfl hm0
   have hx':=hx (j+1,false,M) ⟨by simp only;omega,(λc=>by cases c),hmw,by simp only;omega⟩ (by simp only;omega);clear hx;simp only[fNA,hNA,hme]at hx'⊢;simp[qmq,h1,hlt,h3,e953,zzj,qaN,pur,qaW,PV.AY,PV.AU,DV.AY,DV.AU];exact hx' _ _ (by simp)
 ·have hj2:j=N.length:=by omega
  subst hj2;have h1:¬((N.length:Int)<N.length):=by omega
  cases sh' with
  |true=>simp only[fNA,hNA]at hkj⊢;simp[qmq,h1];exact hkj
  |false=>simp only[fNA,hNA]at hkj⊢;simp[qmq,h1];exact hkj
def qzE{x:Ae}(hx:x.ok):∃l:CL Ae,x.AR.l=l.map Ae.dv/\(∀a∈l,a.ok)/\l.length*56<=140737488355328:=by obtain⟨o,m,s,a⟩:=x;obtain⟨a,t⟩:=a;obtain⟨_,_,_,hX⟩:=hx;simp only at hX;obtain⟨h1,l,h2,h3⟩:=qoC hX;refine⟨l,h2,h3,?_⟩;cases hX with|mk _ _ _ h=>rw[h2]at h;simpa[qbt]using h
def qFi(x:Ae)(m:Int):qaQ x.dv m=qci x.AR.l 1 m:=by unfold Ae.dv;conv=>lhs;unfold qaQ
def qRP(T:Tab)(hS:HS T):∀(n:Nat) (x:Ae),SizeOf.sizeOf x.dv<n->x.ok->∀m:Int,0<=m->m<=200->qaQ x.dv m<=m->Anx (qn4 (qaQ x.dv m)) (T.val 922 [x.dv]):=by
 intro n;induction n with
 |zero=>intro x h;exact absurd h (zzm _)
 |succ n ih=>
  intro x hn hx m hm0 hm1 hc;obtain⟨l,h2,h3,h4⟩:=qzE hx;have hcx:=qFi x m;rw[h2]at hcx;have key:∀(k:KC (PV×CO)) (fr:Fr) (H:CW) (sh:CO) (L:CL (CB)),(sh=true->L.length=1)->TWA L->L.length<=1->
    (∀sh' L',(sh'=true->L'.length=1)->TWA L'->(L'.length:Int)<=qaQ x.dv m->Anx (qn4 (qaQ x.dv m)) (k (.exit 0) ((19,.d (.b false))::(4,.d (I l.length))::fNA sh' L') (hNA x sh' L')))->
    gc [1,3,4] 0 ⟨fr,H⟩=⟨(4,.d (I 0))::fNA sh L,hNA x sh L⟩->Anx (qn4 (qaQ x.dv m)) (kC T.env 0 fr H (.h (.loop [1,3,4] qkg,k))):=by
   intro k fr H sh L hsh hL hl hk h0;refine qb8 (λq:Nat×CO×CL (CB)=>⟨(4,.d (I q.1))::fNA q.2.1 q.2.2,hNA x q.2.1 q.2.2⟩) (λq=>q.1<=l.length/\(q.2.1=true->q.2.2.length=1)/\TWA q.2.2/\∃nn:Int,(q.2.2.length:Int)<=nn/\1<=nn/\qci ((l.drop q.1).map Ae.dv) nn m=qaQ x.dv m) (λq=>l.length-q.1) ?_ (0,sh,L) ⟨zzK _,hsh,hL,1,by simp only;omega,by omega,by simp only[List.drop_zero];exact hcx.symm⟩ h0;rintro B-⟨i,sh',L'⟩ ⟨hi,hs',hw',nn,hn1,hn2,hn3⟩ hx1;simp only at hi hs' hw' hn1 hn3⊢;by_cases hlt:i<l.length
   ·have h1:(i:Int)<l.length:=by omega
    have h5:IntKind.i64.wrap ((i:Int)+1)=(i:Int)+1:=wrI (by omega) (by omega);rw[zzz hlt,zzu]at hn3;have hc2:=hc;rw[<-hn3]at hc2;obtain⟨p1,p2,p3,p4⟩:=qFk hc2;obtain⟨r,e922,N,own,rfl,hNl,hNw⟩:=ih l[i] (by have:=qrw (x:=x) (a:=l[i]) (by rw[h2];exact List.mem_map_of_mem (zzs hlt));omega) (h3 _ (zzs hlt)) (m-nn) (by omega) (by omega) p3;have hsm:L'.length+N.length<=500:=by omega
    have fin:∀sh2 L2,(sh2=true->L2.length=1)->TWA L2->L2.length<=L'.length+N.length->∀fr H,gc [1,3,4] 0 ⟨fr,H⟩=⟨(4,.d (I ((i:Int)+1)))::fNA sh2 L2,hNA x sh2 L2⟩->Anx (qn4 (qaQ x.dv m)) (kC T.env 0 fr H (.h (.loop [1,3,4] B,k))):=by intro sh2 L2 q1 q2 q3 fr H q4;exact hx1 (i+1,sh2,L2) ⟨by simp only;omega,q1,q2,nn+qaQ (Ae.dv l[i]) (m-nn),by simp only;omega,by omega,by simp only;rw[<-p4];exact hn3⟩ (by simp only;omega) fr H (by rw[q4];rfl)
    clear hx1;cases sh' with
    |true=>
     simp only[fNA,hNA];simp[qkg,h1,hlt,h5,h2,e922,zzj,qaN,pur,qaW,PV.AY,PV.AU,DV.AY,DV.AU];refine qAc T hS x i N hNw true L' hs' hw' hsm (λsh2 L2 q1 q2 q3=>?_) (by simp[fNA,hNA]);have f2:=fin sh2 L2 q1 q2 q3;cases sh2 with
     |true=>simp only[fNA,hNA]at f2⊢;simp[h5];exact f2 _ _ (by simp)
     |false=>simp only[fNA,hNA]at f2⊢;simp[h5];exact f2 _ _ (by simp)
    |false=>
     simp only[fNA,hNA];simp[qkg,h1,hlt,h5,h2,e922,zzj,qaN,pur,qaW,PV.AY,PV.AU,DV.AY,DV.AU];refine qAc T hS x i N hNw false L' hs' hw' hsm (λsh2 L2 q1 q2 q3=>?_) (by simp[fNA,hNA]);have f2:=fin sh2 L2 q1 q2 q3;cases sh2 with
     |true=>simp only[fNA,hNA]at f2⊢;simp[h5];exact f2 _ _ (by simp)
     |false=>simp only[fNA,hNA]at f2⊢;simp[h5];exact f2 _ _ (by simp)
   ·have hi2:i=l.length:=by omega
    subst hi2;have h1:¬((l.length:Int)<l.length):=by omega
    rw[List.drop_length,List.map_nil]at hn3;have hf:(L'.length:Int)<=qaQ x.dv m:=by rw[<-hn3];unfold qci;exact hn1
    have hkk:=hk sh' L' hs' hw' hf;cases sh' with
    |true=>simp only[fNA,hNA]at hkk⊢;simp[qkg,h1,h2];exact hkk
    |false=>simp only[fNA,hNA]at hkk⊢;simp[qkg,h1,h2];exact hkk
  have ends:∀sh' (L':CL (CB)),(sh'=true->L'.length=1)->True:=λ_ _ _=>trivial;clear ends;rw[qab T (hS 922 F922 rfl) rfl];have hS0:x.S.length<=maxLen:=hx.2.2.1;by_cases ho:x.Op=4
  ·simp[F922,Fr.Aa,ho,↓qko];refine key _ _ _ true [x.S] (λ_=>rfl) (λs hs=>by rw[zzH.1 hs];exact hS0) (zzt _) (λsh' L' q1 q2 q3=>?_) (by simp[fNA,hNA]);cases sh' with
   |true=>
    obtain⟨s0,rfl⟩:∃s0,L'=[s0]:=by
     have:=q1 rfl
     match L',this with
     |[s0],_=>exact⟨s0,rfl⟩
    simp only[fNA,hNA];simp;exact qaf ⟨[s0],_,rfl,q3,q2⟩
   |false=>
    cases L' with
    |nil=>simp only[fNA,hNA];simp;exact qaf ⟨[],_,rfl,q3,q2⟩
    |cons s0 L'=>simp only[fNA,hNA,List.isEmpty_cons];simp;exact qaf ⟨s0::L',_,rfl,q3,q2⟩
  ·have go:=qbV ho;simp[F922,Fr.Aa,ho,go];refine key _ _ _ false [] (λc=>by cases c) (λs hs=>by cases hs) (zzK _) (λsh' L' q1 q2 q3=>?_) (by simp[fNA,hNA]);cases sh' with
   |true=>
    obtain⟨s0,rfl⟩:∃s0,L'=[s0]:=by
     have:=q1 rfl
     match L',this with
     |[s0],_=>exact⟨s0,rfl⟩
    simp only[fNA,hNA];simp;exact qaf ⟨[s0],_,rfl,q3,q2⟩
   |false=>
    cases L' with
    |nil=>simp only[fNA,hNA];simp;exact qaf ⟨[],_,rfl,q3,q2⟩
    |cons s0 L'=>simp only[fNA,hNA,List.isEmpty_cons];simp;exact qaf ⟨s0::L',_,rfl,q3,q2⟩
def qDq(r:PV×CO):Prop:=∃n:Int,r=(.d (I n),false)/\(Lit.int .i64 n).wf=true
def qRO(T:Tab)(hT:HU T)(x:Ae)(hx:x.ok)(m:Int)(h0:0<=m)(h1:m<=1000):T.val 919 [x.dv,I m]=some (.d (.b (decide (m<qaQ x.dv m))),false):=by rw[qab T (hT 919 qhI rfl) rfl];have e:=qC5 T hT _ x (Nat.lt_succ_self _) hx m h0 h1;simp[qhI,Fr.Aa,e]
def qzT(d:Nat)(x:Ae)(hx:x.ok):HsK d (kX 0) x.dv:=by obtain⟨o,m,s,a⟩:=x;obtain⟨a,t⟩:=a;obtain⟨h1,h2,h3,hX⟩:=hx;exact qsS h1 h2 h3 (qwa hX)
def qDf{d:Nat}{v:DV}(h:HsK d (kX 0) v):∃x:Ae,v=x.dv/\x.ok:=by
 obtain⟨o,n,s,a,rfl,h1,h2,h3,⟨k,h4⟩⟩:=qsT h;have hX:=qv8 h4;cases hX with
 |mk es q1 q2 q3=>exact⟨⟨o,n,s,⟨es,false⟩⟩,rfl,h1,h2,h3,.mk es q1 q2 q3⟩
def qRx(T:Tab)(hS:HS T)(hU:HU T)(x:Ae)(hx:x.ok):Anx qDq (T.val 859 [x.dv]):=by
 have e919:=qRO T hU x hx 64 (by decide) (by decide);obtain⟨n920,own1,e920,_⟩:=qcU (qDY T hS) 0 (ds:=[x.dv]) ⟨qzT 0 x hx,trivial⟩;obtain⟨b921,own2,e921⟩:=qcs (qDZ T hS) 0 (ds:=[x.dv]) ⟨qzT 0 x hx,trivial⟩;rw[qab T (hS 859 F859 rfl) rfl];by_cases hg:(64:Int)<qaQ x.dv 64
 ·simp[F859,Fr.Aa,e919,hg];exact qaf ⟨5,rfl,by decide⟩
 by_cases h8:8<n920
 ·simp[F859,Fr.Aa,e919,hg,e920,h8];exact qaf ⟨5,rfl,by decide⟩
 cases b921 with
 |false=>simp[F859,Fr.Aa,e919,hg,e920,h8,e921];exact qaf ⟨1,rfl,by decide⟩
 |true=>
  obtain⟨r,e922,L,own3,rfl,hL,hw⟩:=qRP T hS _ x (Nat.lt_succ_self _) hx 64 (by decide) (by decide) (by omega);have hL2:L.length<=64:=by omega
  simp[F859,Fr.Aa,e919,hg,e920,h8,e921,e922];refine qb8 (λi:Nat=>⟨[(4,.d (I i)),(3,.d (.l K0 (L.map DV.s) false))],[]⟩) (λi=>i<=L.length) (λi=>L.length-i) ?_ 0 (zzK _) (by simp);rintro B-i hi hx1;by_cases hlt:i<L.length
  ·have h1:(i:Int)<L.length:=by omega
   have h3:=wr1 (i:=i) (by omega);obtain⟨b,own4,e923⟩:=qcs (qD0 T hS) 0 (ds:=[.s L[i]]) ⟨qgB (hw _ (zzs hlt)),trivial⟩;have hx':=hx1 (i+1) (by omega) (by omega);cases b with
   |true=>simp[qrd,h1,hlt,h3,e923,zzj];exact hx' _ _ (by simp)
   |false=>simp[qrd,h1,hlt,h3,e923,zzj];exact qaf ⟨4,rfl,by decide⟩
  ·have h1:¬((i:Int)<L.length):=by omega
   simp[qrd,h1];exact qaf ⟨0,rfl,by decide⟩
def qGE(T:Tab)(hS:HS T)(hU:HU T):qap T 859 quU:=by
 intro d ds hd;cases ds with
 |nil=>exact hd.elim
 |cons v ds=>
  cases ds with
  |cons=>exact hd.2.elim
  |nil=>obtain⟨x,rfl,hx⟩:=qDf (show HsK d (kX 0) v from hd.1);obtain⟨r,e,n,rfl,hn⟩:=qRx T hS hU x hx;exact⟨[I n],false,e,qcO hn,trivial⟩
def qEl{T:Tab}{f:Nat}{a:CL (K×CL TA)}(h:qap T f ⟨a,[(none,[.i .i64]),(none,[.b])]⟩)(d:Nat){ds:Cy}(hd:qbO d a ds):∃n b own,T.val f ds=some (.t [.d (I n),.d (.b b)],own)/\(Lit.int .i64 n).wf=true:=by
 obtain⟨vs,own,h1,h2⟩:=h d ds hd;cases vs with
 |nil=>exact h2.elim
 |cons v vs=>
  cases vs with
  |nil=>exact h2.2.elim
  |cons w vs=>
   cases vs with
   |cons=>exact h2.2.2.elim
   |nil=>obtain⟨⟨cs,c1,c2⟩,⟨ds,d1,d2⟩,-⟩:=h2;obtain⟨w1,r1,rfl,⟨i,rfl,q1⟩,c3⟩:=qa0 c2;obtain rfl:=qck c3;obtain⟨w5,r5,rfl,⟨b,rfl⟩,d3⟩:=qa0 d2;obtain rfl:=qck d3;cases c1;cases d1;exact⟨i,b,own,h1,q1⟩
def qR5{d:Nat}{cs:Cy}{e:DV}(he:mkD (K1 2) cs=some e)(h:HsL d qnT cs):∃x:Aq,e=x.dv/\(Lit.int .i64 x.Typ).wf=true:=by obtain⟨w1,r1,rfl,⟨s,rfl,h1⟩,c2⟩:=qa0 h;obtain⟨w2,r2,rfl,⟨a,rfl,h2⟩,c3⟩:=qa0 c2;obtain rfl:=qck c3;exact⟨⟨s,a⟩,(Option.some.inj he).symm,h2⟩
def qDr(r:PV×CO):Prop:=∃a b:Int,r=(.t [.d (I a),.d (I b)],false)/\(Lit.int .i64 a).wf=true/\(Lit.int .i64 b).wf=true
def tVA:Cy->PV
 |[]=>.r 0 K0 0 0 true
 |_::r=>.r 0 K0 0 (r.length+1) false
def qRy(T:Tab)(hS:HS T)(V:CL Aq)(t:CO)(hVl:V.length<=maxLen)(hV:∀y∈V,(Lit.int .i64 y.Typ).wf=true):∀(n:Nat) (x:Ae),SizeOf.sizeOf x.dv<n->x.ok->Anx qDr (T.val 860 [x.dv,.l (K1 2) (V.map Aq.dv) t]):=by
 intro n;induction n with
 |zero=>intro x h;exact absurd h (zzm _)
 |succ n ih=>
  intro x hn hx;have hm:=mxl;obtain⟨l,h2,h3,h4⟩:=qzE hx;rw[qab T (hS 860 F860 rfl) rfl];by_cases o1:x.Op=1
  ·simp[F860,Fr.Aa,o1];exact qaf ⟨1,0,rfl,by decide,by decide⟩
  have g1:=qbV o1;by_cases o2:x.Op=2
  ·simp[F860,Fr.Aa,o2];exact qaf ⟨2,0,rfl,by decide,by decide⟩
  have g2:=qbV o2;by_cases o3:x.Op=3
  ·simp[F860,Fr.Aa,o3];exact qaf ⟨3,0,rfl,by decide,by decide⟩
  have g3:=qbV o3;by_cases o4:x.Op=4
  ·simp[F860,Fr.Aa,o4];refine qb8 (λi:Nat=>⟨[(6,.d (I i)),(2,.p 0 0 0),(1,.d (.l (K1 2) (V.map Aq.dv) t))],[some (.box (K1 4) (.d x.dv))]⟩) (λi=>i<=V.length) (λi=>V.length-i) ?_ 0 (zzK _) (by simp);rintro B-i hi hx1;by_cases hlt:i<V.length
   ·have h1:(i:Int)<V.length:=by omega
    have h5:IntKind.i64.wrap ((i:Int)+1)=(i:Int)+1:=wrI (by omega) (by omega);have wt:=hV V[i] (zzs hlt);obtain⟨b,own4,e924⟩:=qcs (qwr T hS) 0 (ds:=[I V[i].Typ]) ⟨qcO wt,trivial⟩;have hx':=hx1 (i+1) (by omega) (by omega);by_cases hq:V[i].Name=x.S
    ·cases b with
     |true=>simp[qoh,h1,hlt,h5,hq,e924,zzj];exact qaf ⟨_,0,rfl,wt,by decide⟩
     |false=>simp[qoh,h1,hlt,h5,hq,e924,zzj];exact qaf ⟨0,3,rfl,by decide,by decide⟩
    ·have gq:(V[i].Name==x.S)=false:=by simpa using hq
     simp[qoh,h1,hlt,h5,hq,gq,e924,zzj];exact hx' _ _ (by simp)
   ·have h1:¬((i:Int)<V.length):=by omega
    simp[qoh,h1];exact qaf ⟨0,4,rfl,by decide,by decide⟩
  have g4:=qbV o4;simp[F860,Fr.Aa,o1,g1,o2,g2,o3,g3,o4,g4];refine qb8 (λq:Nat×Cy=>⟨[(8,.d (I q.1)),(7,tVA q.2),(2,.p 1 0 0),(1,.d (.l (K1 2) (V.map Aq.dv) t))],[some (.sl K0 0 q.2),some (.box (K1 4) (.d x.dv))]⟩) (λq=>q.1<=l.length/\q.2.length=q.1/\AW q.2) (λq=>l.length-q.1) ?_ (0,[]) ⟨zzK _,rfl,λy hy=>by cases hy⟩ (by simp[tVA]);rintro B-⟨i,L⟩ ⟨hi,hl,hw⟩ hx1;simp only at hi hl hw⊢;by_cases hlt:i<l.length
  ·have h1:(i:Int)<l.length:=by omega
   have h5:IntKind.i64.wrap ((i:Int)+1)=(i:Int)+1:=wrI (by omega) (by omega);obtain⟨r,e860,a,f,rfl,wa,wf⟩:=ih l[i] (by have:=qrw (x:=x) (a:=l[i]) (by rw[h2];exact List.mem_map_of_mem (zzs hlt));omega) (h3 _ (zzs hlt));have hx':=hx1 (i+1,L++[I a]) ⟨by simp only;omega,by simp[hl],λy hy=>by
    rcases zzB.1 hy with hy|hy
    ·exact hw y hy
    ·exact⟨a,zzH.1 hy,wa⟩⟩ (by simp only;omega)
   clear hx1;by_cases hf:f=0
   ·subst hf;cases L with
    |nil=>simp only[List.nil_append,tVA]at hx'⊢;simp[qhO,h1,hlt,h5,h2,e860,zzj];exact hx' _ _ (by simp)
    |cons y L=>
     have b8:(L.length+1+1)*8<=140737488355328:=by simp only[zzn]at hl;omega
     have ht:L.take L.length=L:=zzv (zzt _);simp only[List.cons_append,tVA]at hx'⊢;simp[qhO,h1,hlt,h5,h2,e860,zzj,b8,ht];exact hx' _ _ (by simp)
   ·have gf:=qbV hf;cases L with
    |nil=>simp only[tVA];simp[qhO,h1,hlt,h5,h2,e860,zzj,hf,gf,bne];exact qaf ⟨0,f,rfl,by decide,wf⟩
    |cons y L=>simp only[tVA];simp[qhO,h1,hlt,h5,h2,e860,zzj,hf,gf,bne];exact qaf ⟨0,f,rfl,by decide,wf⟩
  ·have hi2:i=l.length:=by omega
   subst hi2;have h1:¬((l.length:Int)<l.length):=by omega
   obtain⟨ty,ok,own5,e925,wty⟩:=qEl (qD1 T hS) 0 (ds:=[I x.Op,.l K0 L false]) ⟨qcO hx.1,⟨[.l K0 L false],rfl,⟨L,false,rfl,by omega,by omega,λe he=>by
    obtain⟨n,rfl,hn⟩:=hw e he;exact⟨[I n],rfl,⟨n,rfl,hn⟩,trivial⟩⟩,trivial⟩,trivial⟩
   cases ok with
   |true=>
    cases L with
    |nil=>simp only[tVA];simp[qhO,h1,h2,e925,qaN,pur,qaW,PV.AY,PV.AU,DV.AY,DV.AU];exact qaf ⟨ty,0,rfl,wty,by decide⟩
    |cons y L=>have ht:L.take L.length=L:=zzv (zzt _);simp only[tVA];simp[qhO,h1,h2,e925,qaN,pur,qaW,PV.AY,PV.AU,DV.AY,DV.AU,ht];exact qaf ⟨ty,0,rfl,wty,by decide⟩
   |false=>
    cases L with
    |nil=>simp only[tVA];simp[qhO,h1,h2,e925,qaN,pur,qaW,PV.AY,PV.AU,DV.AY,DV.AU];exact qaf ⟨0,3,rfl,by decide,by decide⟩
    |cons y L=>have ht:L.take L.length=L:=zzv (zzt _);simp only[tVA];simp[qhO,h1,h2,e925,qaN,pur,qaW,PV.AY,PV.AU,DV.AY,DV.AU,ht];exact qaf ⟨0,3,rfl,by decide,by decide⟩
def qGF(T:Tab)(hS:HS T):qap T 860 quV:=by
 intro d ds hd;cases ds with
 |nil=>exact hd.elim
 |cons v ds=>
  cases ds with
  |nil=>exact hd.2.elim
  |cons w ds=>
   cases ds with
   |cons=>exact hd.2.2.elim
   |nil=>
    obtain⟨h1,⟨cs,c1,c2⟩,-⟩:=hd;obtain⟨x,rfl,hx⟩:=qDf (show HsK d (kX 0) v from h1);obtain⟨w5,r5,rfl,⟨es,t,rfl,q1,_,q2⟩,d3⟩:=qa0 c2;obtain rfl:=qck d3;cases c1;obtain⟨V,rfl,hV⟩:=qpO (f:=Aq.dv) (P:=λy=>(Lit.int .i64 y.Typ).wf=true) λe he=>by obtain⟨cs,z1,z2⟩:=q2 e he;exact qR5 z1 z2
    obtain⟨r,e,a,b,rfl,wa,wb⟩:=qRy T hS V t (by simpa using q1) hV _ x (Nat.lt_succ_self _) hx;exact⟨[I a,I b],false,e,qcO wa,qcO wb,trivial⟩
def qGI(T:Tab)(hS:HS T)(hU:HU T)(hP:HP T):BH T:=⟨qGD T hP,qGE T hS hU,qGF T hS,qGA T hS,qGC T hS,qyt T hS,qGB T hS⟩
def Am(n:Int):Prop:=0<=n/\n<=1000000000000
def IsE(P:Prop)(r:PV×CO):Prop:=∃n own,r=(.d (I n),own)/\(n=0->P)
def IsT(P:Prop)(r:PV×CO):Prop:=∃c own,r=(.d (.b c),own)/\(c=true->P)
def qba{P:Prop}{n:Int}{own:CO}(h:n≠0):IsE P (.d (I n),own):=⟨n,own,rfl,λh'=>absurd h' h⟩
def qcA{P:Prop}{own:CO}:IsT P (.d (.b false),own):=⟨false,own,rfl,λh'=>by cases h'⟩
def qGP{α:Type}{d n m:Nat}{ts:CL TA}{l:CL α}{dv:α->DV}{t:CO}(h1:l.length<=maxLen)(h2:l.length<=m)(h:∀x∈l,HsK d (K1 n,ts) (dv x)):HsK d (K0,[.l (K1 n) m ts]) (.l (K1 n) (l.map dv) t):=
 ⟨[_],rfl,⟨_,t,rfl,by simpa using h1,by simpa using h2,λe he=>by
  obtain⟨x,hx,rfl⟩:=zzN.1 he;exact h x hx⟩,trivial⟩
def qyA(d:Nat)(x:AB)(hx:x.ok):HsK d (K1 7,qnP) x.dv:=
 ⟨x.cells,rfl,⟨_,rfl,hx.1⟩,⟨_,rfl,hx.2.1⟩,⟨_,rfl,hx.2.2.1⟩,⟨_,rfl,hx.2.2.2.1⟩,⟨_,rfl,hx.2.2.2.2.1⟩,⟨_,rfl,hx.2.2.2.2.2.1⟩,⟨_,rfl,hx.2.2.2.2.2.2⟩,trivial⟩
def qPX(n:Nat)(es:Cy)(t:CO)(j:Nat)(hj:j<=es.length)(H:CW):slA H (K1 n) (.d (.l (K1 n) es t)) none (some (.d (I j))) none=some (.d (.l (K1 n) (es.take j) (t&&j==es.length))):=by have h1:(0:Int)<=(j:Int)/\(j:Int)<=(es.length:Int):=⟨by omega,by omega⟩;simp[slA,bnd,asI,qcD,h1]
def qQt{vs:Cy}(h599:qbO 0 s599.res vs):∃v0 v1,vs=[v0,v1]/\(∃cu:AO,v0=cu.dv)/\(∃c2,v1=.b c2):=by
 match vs,h599 with
 |[v0,v1],⟨⟨cs,k1,k2⟩,⟨cs',k1',k2'⟩,_⟩=>obtain⟨w,r,rfl,⟨s,rfl,_⟩,k3⟩:=qa0 k2;obtain⟨w',r',rfl,⟨m,rfl,_⟩,k4⟩:=qa0 k3;obtain rfl:=qck k4;obtain⟨w,r,rfl,⟨b,rfl⟩,k5⟩:=qa0 k2';obtain rfl:=qck k5;cases k1;cases k1';exact⟨_,_,rfl,⟨⟨s,m⟩,rfl⟩,⟨b,rfl⟩⟩
def qQs{ws:Cy}(h513:qbO 0 s513.res ws):∃w0 w1,ws=[w0,w1]/\(∃q0 q1 q2,w0=.a [q0,q1,q2])/\(∃c3,w1=.b c3):=by
 match ws,h513 with
 |[v0,v1],⟨⟨cs,k1,k2⟩,⟨cs',k1',k2'⟩,_⟩=>obtain⟨w,r,rfl,⟨b,rfl⟩,k5⟩:=qa0 k2';obtain rfl:=qck k5;obtain⟨q0,r0,rfl,_,k6⟩:=qa0 k2;obtain⟨q1,r1,rfl,_,k7⟩:=qa0 k6;obtain⟨q2,r2,rfl,_,k8⟩:=qa0 k7;obtain rfl:=qck k8;cases k1;cases k1';exact⟨_,_,rfl,⟨_,_,_,rfl⟩,⟨b,rfl⟩⟩
def qwH{b:Af}(h:qaD Af.ty b.cells):HsL 0 qcT b.cells:=qvi 0 Af.ty h
def qOJ(T:Tab)(hS:HS T)(hH:BH T)(a:AB)(ha:a.ok):∃c own,T.val 545 [a.dv]=some (.d (.b c),own)/\(c=true->1000<=a.Id):=by
 obtain⟨c,own,e⟩:=qcs (qwh T hS hH) 0 (ds:=[a.dv]) ⟨qyA 0 _ ha,trivial⟩;refine⟨c,own,e,λh0=>?_⟩;by_cases hb:1000<=a.Id
 ·exact hb
 exfalso;have e':T.val 545 [a.dv]=some (.d (.b false),false):=by rw[qab T (hS 545 qiy rfl) rfl];simp[qiy,Fr.Aa,hb]
 rw[e']at e;subst h0;simp at e
def qOE(T:Tab)(hS:HS T)(hH:BH T)(b:Af)(hb:b.ok)(ht:HsL 0 qcT b.cells):Anx (IsE (∀y∈b.A7.l,Am y.Extra/\1000<=y.Id)) (T.val 508 [b.dv]):=by
 have hm:=mxl;have hl:=hb.2.2.2.2.2.1.1;rw[qab T (hS 508 F508 rfl) rfl];by_cases g64:(64:Int)<b.A7.l.length
 ·simp[F508,Fr.Aa,g64];exact qaf (qba (by decide))
 simp[F508,Fr.Aa,g64];refine qb8 (λi:Nat=>⟨[(3,.d (I i)),(1,.p 0 0 0)],[some (.box (K1 22) (.d b.dv))]⟩) (λi=>i<=b.A7.l.length/\∀(k:Nat) (h:k<b.A7.l.length),k<i->Am b.A7.l[k].Extra/\1000<=b.A7.l[k].Id) (λi=>b.A7.l.length-i) ?_ 0 ⟨zzK _,λk _ h=>absurd h (zzm _)⟩ (by simp);rintro B-i ⟨hi,hg⟩ hx;by_cases hlt:i<b.A7.l.length
 ·have h1:(i:Int)<b.A7.l.length:=by omega
  have h3:=wr1 (i:=i) (by omega);have hok:=hb.2.2.2.2.2.1.2 _ (zzs hlt);have hgi:=hg;obtain⟨a,ha⟩:∃a,b.A7.l[i]=a:=⟨_,rfl⟩;have hge:(b.A7.l.map AB.dv)[i]? = some a.dv:=by simp[hlt,ha]
  rw[ha]at hok;obtain⟨c1,own1,e545,hc1⟩:=qOJ T hS hH a hok;obtain⟨c2,own2,e544⟩:=qcs (qhP T hS) 0 (ds:=[I a.Closed]) ⟨qcO hok.2.2.1,trivial⟩;obtain⟨n3,own3,e546,-⟩:=qcU (qwi T hS) 0 (ds:=[b.dv,a.dv]) ⟨⟨b.cells,rfl,ht⟩,qyA 0 _ hok,trivial⟩;cases c1 with
  |false=>
   simp[qhM,h1,hlt,h3,ha,e545,e544];repeat' (refine qcg (λh=>?_) (λh=>?_)<;>(try simp at h)<;>(try simp[h,e545,e544]))
   all_goals exact qaf (qba (by decide))
  |true=>
   by_cases hE:Am a.Extra
   ·have hx':=hx (i+1) ⟨by omega,λk hk hki=>by
     by_cases e:k=i
     ·subst e;rw[ha];exact⟨hE,hc1 rfl⟩
     ·exact hg k hk (by omega)⟩ (by omega)
    have h5:¬a.Extra<0:=by have:=hE.1;omega
    have h6:¬1000000000000<a.Extra:=by have:=hE.2;omega
    clear hx hg hgi;by_cases hn:n3=0
    ·subst hn;cases i with
     |zero=>
      have h1':(0:Int)<b.A7.l.length:=h1;have h3':IntKind.i64.wrap 1=1:=rfl;simp[qhM,h1',hlt,h3',ha,e545,e544,e546,h5,h6];repeat' (refine qcg (λh=>?_) (λh=>?_)<;>(try simp at h)<;>(try simp[h,h1',hlt,h3',ha,e545,e544,e546,h5,h6]))
      all_goals first|exact qaf (qba (by decide))|exact hx' _ _ (by simp)
     |succ m=>
      have c1:((m+1:Nat):Int)=(m:Int)+1:=by omega
      have g1:(0:Int)<(m:Int)+1:=by omega
      have g0:(0:Int)<=(m:Int)+1:=by omega
      have g6:IntKind.i64.wrap (m:Int)=m:=wrI (by omega) (by omega);have g3:(m:Int)<b.A7.l.length:=by omega
      have g5:m<b.A7.l.length:=by omega
      rw[c1]at h1 h3⊢;simp[qhM,h1,hlt,h3,g0,g1,g6,g3,g5,ha,e545,e544,e546,h5,h6];repeat' (refine qcg (λh=>?_) (λh=>?_)<;>(try simp at h)<;>(try simp[h,h1,hlt,h3,g0,g1,g6,g3,g5,ha,e545,e544,e546,h5,h6]))
      all_goals first|exact qaf (qba (by decide))|exact hx' _ _ (by simp)
    ·have gn:=qbV hn;cases i with
     |zero=>
      have h1':(0:Int)<b.A7.l.length:=h1;have h3':IntKind.i64.wrap 1=1:=rfl;simp[qhM,h1',hlt,h3',ha,e545,e544,e546,h5,h6,hn,gn,bne];repeat' (refine qcg (λh=>?_) (λh=>?_)<;>(try simp at h)<;>(try simp[h,h1',hlt,h3',ha,e545,e544,e546,h5,h6,hn,gn,bne]))
      all_goals first|exact qaf (qba (by decide))|exact qaf (qba hn)
     |succ m=>
      have c1:((m+1:Nat):Int)=(m:Int)+1:=by omega
      have g1:(0:Int)<(m:Int)+1:=by omega
      have g0:(0:Int)<=(m:Int)+1:=by omega
      have g6:IntKind.i64.wrap (m:Int)=m:=wrI (by omega) (by omega);have g3:(m:Int)<b.A7.l.length:=by omega
      have g5:m<b.A7.l.length:=by omega
      rw[c1]at h1 h3⊢;simp[qhM,h1,hlt,h3,g0,g1,g6,g3,g5,ha,e545,e544,e546,h5,h6,hn,gn,bne];repeat' (refine qcg (λh=>?_) (λh=>?_)<;>(try simp at h)<;>(try simp[h,h1,hlt,h3,g0,g1,g6,g3,g5,ha,e545,e544,e546,h5,h6,hn,gn,bne]))
      all_goals first|exact qaf (qba (by decide))|exact qaf (qba hn)
   ·unfold Am at hE;have hq:a.Extra<0\/¬a.Extra<0/\1000000000000<a.Extra:=by omega
    rcases hq with h5|⟨h5,h6⟩
    ·simp[qhM,h1,hlt,h3,ha,e545,e544,h5];repeat' (refine qcg (λh=>?_) (λh=>?_)<;>(try simp at h)<;>(try simp[h,e545,e544,h5]))
     all_goals exact qaf (qba (by decide))
    ·simp[qhM,h1,hlt,h3,ha,e545,e544,h5,h6];repeat' (refine qcg (λh=>?_) (λh=>?_)<;>(try simp at h)<;>(try simp[h,e545,e544,h5,h6]))
     all_goals exact qaf (qba (by decide))
 ·have:i=b.A7.l.length:=by omega
  subst this;have h1:¬((b.A7.l.length:Int)<b.A7.l.length):=by omega
  simp[qhM,h1];exact qaf ⟨0,false,rfl,λ_ y hy=>by obtain⟨k,hk,rfl⟩:=zzO hy;exact hg k hk hk⟩
def few(b:Af):Prop:=b.Bh.l.length<=20/\b.Bf.l.length<=10/\b.BD.l.length<=60/\b.AZ.l.length<=20/\b.A7.l.length<=40/\b.Bc.l.length<=150/\b.Holds.l.length<=100/\b.BG.l.length<=100
def qBj(T:Tab)(hS:HS T)(b:Af)(ht:HsL 0 qcT b.cells):∃c own,T.val 1090 [b.dv]=some (.d (.b c),own)/\(c=false->few b):=by
 obtain⟨c,own,e⟩:=qcs (qDz T hS) 0 (ds:=[b.dv]) ⟨⟨b.cells,rfl,ht⟩,trivial⟩;have hh:=ht.2.2.2.2.2.2.2.2.2.2.2.2.2.2.2.2.2.2.2.2.1;obtain⟨q,o,e1⟩:=qcs (qrn T hS) 0 (ds:=[.l (K1 6) (b.Holds.l.map BB.dv) b.Holds.t]) ⟨⟨[_],rfl,hh,trivial⟩,trivial⟩;refine⟨c,own,e,λhc=>?_⟩;subst hc;rw[qab T (hS 1090 F1090 rfl) rfl]at e;by_cases h1:(20:Int)<b.Bh.l.length
 ·simp[F1090,Fr.Aa,h1]at e
 by_cases h2:(10:Int)<b.Bf.l.length
 ·simp[F1090,Fr.Aa,h1,h2]at e
 by_cases h3:(60:Int)<b.BD.l.length
 ·simp[F1090,Fr.Aa,h1,h2,h3]at e
 by_cases h4:(20:Int)<b.AZ.l.length
 ·simp[F1090,Fr.Aa,h1,h2,h3,h4]at e
 by_cases h5:(40:Int)<b.A7.l.length
 ·simp[F1090,Fr.Aa,h1,h2,h3,h4,h5]at e
 by_cases h6:(150:Int)<b.Bc.l.length
 ·simp[F1090,Fr.Aa,h1,h2,h3,h4,h5,h6]at e
 cases q with
 |true=>simp[F1090,Fr.Aa,h1,h2,h3,h4,h5,h6,e1]at e
 |false=>
 by_cases h8:(100:Int)<b.BG.l.length
 ·simp[F1090,Fr.Aa,h1,h2,h3,h4,h5,h6,e1,h8]at e
 by_cases h7:(100:Int)<b.Holds.l.length
 ·rw[qab T (hS 1094 qhD rfl) rfl]at e1;simp[qhD,Fr.Aa,h7]at e1
 unfold few;omega
structure Raw (T:Tab) (b:Af):Prop where
 gr:few b
 cu:∃own,T.val 504 [.l (K1 2) (b.Bh.l.map AO.dv) b.Bh.t]=some (.d (I 0),own)
 pl:∃own,T.val 506 [.l (K1 4) (b.BD.l.map AGl.dv) b.BD.t,b.AA.dv]=some (.d (I 0),own)
 pr:∀p∈b.AZ.l,∃own,T.val 543 [p.dv,.l (K1 2) (b.Bh.l.map AO.dv) b.Bh.t,.l (K1 3) (b.Bf.l.map AV.dv) b.Bf.t]=some (.d (I 0),own)
 ac:∃own,T.val 508 [b.dv]=some (.d (I 0),own)
 jo:∃own,T.val 1099 [b.dv]=some (.d (.b true),own)
 ho:∃own,T.val 510 [.l (K1 6) (b.Holds.l.map BB.dv) b.Holds.t]=some (.d (I 0),own)
 bl:∃own,T.val 511 [.l (K1 7) (b.BG.l.map BF.dv) b.BG.t]=some (.d (I 0),own)
def qkI{d:Nat}:∀(n:Nat) {ts:CL TA} {xs:Cy},HsL d ts xs->HsL d (ts.drop n) (xs.drop n)
 |0,_,_,h=>h
 |_+1,[],[],_=>trivial
 |n+1,_::_,_::_,h=>qkI n h.2
 |_+1,[],_::_,h=>h.elim
 |_+1,_::_,[],h=>h.elim
def qkJ{d:Nat}:∀(n:Nat) {ts:CL TA} {xs:Cy},HsL d ts xs->HsL d (ts.take n) (xs.take n)
 |0,_,_,_=>trivial
 |_+1,[],[],_=>trivial
 |n+1,_::_,_::_,h=>⟨h.1,qkJ n h.2⟩
 |_+1,[],_::_,h=>h.elim
 |_+1,_::_,[],h=>h.elim
def qwN{R:Type}(a b:CB){d:DV->CK R}:bo (qaL .leq (.d (.s a)) (.d (.s b))) (.h d)=d (.b (Op.bytesLess a b||a==b)):=rfl
def qOW(T:Tab)(hS:HS T)(hH:BH T)(b:Af)(hb:b.ok)(ht:HsL 0 qcT b.cells):Anx (IsT (Raw T b)) (T.val 1093 [b.dv]):=by
 have hm:=mxl;obtain⟨c0,o0,e1090,hg⟩:=qBj T hS b ht;rw[qab T (hS 1093 F1093 rfl) rfl];cases c0 with
 |true=>simp[F1093,Fr.Aa,e1090];exact qaf qcA
 |false=>
 have hg:=hg rfl;have hlen:=hg;unfold few at hlen;obtain⟨n1,o1,e504,-⟩:=qcU (qDF T hS) 0 (ds:=[.l (K1 2) (b.Bh.l.map AO.dv) b.Bh.t]) ⟨⟨[_],rfl,ht.1,trivial⟩,trivial⟩;obtain⟨n2,o2,e506,-⟩:=qcU (qDG T hS) 0 (ds:=[.l (K1 4) (b.BD.l.map AGl.dv) b.BD.t,b.AA.dv]) ⟨⟨[_],rfl,ht.2.2.1,trivial⟩,⟨b.AA.cells,rfl,qkJ 14 (qkI 3 ht)⟩,trivial⟩;have hpl:=ht.2.2.2.2.2.2.2.2.2.2.2.2.2.2.2.2.2.1;obtain⟨n3,o3,e542,-⟩:=qcU (qDN T hS) 0 (ds:=[.l (K1 19) (b.AZ.l.map Aj.dv) b.AZ.t]) ⟨⟨[_],rfl,hpl,trivial⟩,trivial⟩;by_cases z1:n1=0
 ·subst z1;by_cases z2:n2=0
  ·subst z2;by_cases z3:n3=0
   ·subst z3;simp[F1093,Fr.Aa,e1090,e504,e506,e542];refine qb8 (λi:Nat=>⟨[(3,.d (I i)),(1,.p 0 0 0)],[some (.box (K1 22) (.d b.dv))]⟩) (λi=>i<=b.Bf.l.length) (λi=>b.Bf.l.length-i) ?_ 0 (zzK _) (by simp);rintro B-i hi hx;by_cases hlt:i<b.Bf.l.length
    ·have h1:(i:Int)<b.Bf.l.length:=by omega
     have h3:=wr1 (i:=i) (by omega);have hx':=hx (i+1) (by omega) (by omega);clear hx;obtain⟨a,ha⟩:∃a,b.Bf.l[i]=a:=⟨_,rfl⟩;have hge:(b.Bf.l.map AV.dv)[i]? = some a.dv:=by simp[hlt,ha]
     have hta:HsK 0 (K1 3,qhx) a.dv:=by obtain⟨es,t,e,_,_,h⟩:=ht.2.1;injection e with _ e _;subst e;exact h _ (List.mem_of_getElem? hge)
     obtain⟨n4,o4,e538,-⟩:=qcU (qDM T hS) 0 (ds:=[a.dv]) ⟨hta,trivial⟩;by_cases z4:n4=0
     ·subst z4;cases i with
      |zero=>have h1':(0:Int)<b.Bf.l.length:=h1;have h3':IntKind.i64.wrap 1=1:=rfl;simp[qn5,h1',hlt,h3',ha,e538];exact hx' _ _ (by simp)
      |succ m=>
       have c1:((m+1:Nat):Int)=(m:Int)+1:=by omega
       have g1:(0:Int)<(m:Int)+1:=by omega
       have g0:(0:Int)<=(m:Int)+1:=by omega
       have g6:IntKind.i64.wrap (m:Int)=m:=wrI (by omega) (by omega);have g3:(m:Int)<b.Bf.l.length:=by omega
       have g5:m<b.Bf.l.length:=by omega
       rw[c1]at h1 h3⊢;simp[qn5,h1,hlt,h3,g0,g1,g6,g3,g5,ha,e538,zzj,↓qwN];repeat' (refine qcg (λh=>?_) (λh=>?_)<;>(try simp[h3]))
       all_goals first|exact qaf qcA|exact hx' _ _ (by simp)
     ·have g4:=qbV z4;simp[qn5,h1,hlt,h3,ha,e538,z4,g4,bne];exact qaf qcA
    ·have:i=b.Bf.l.length:=by omega
     subst this;have h1:¬((b.Bf.l.length:Int)<b.Bf.l.length):=by omega
     clear hx;simp[qn5,h1];refine qb8 (λi:Nat=>⟨[(4,.d (I i)),(1,.p 0 0 0)],[some (.box (K1 22) (.d b.dv))]⟩) (λi=>i<=b.AZ.l.length/\∀(k:Nat) (h:k<b.AZ.l.length),k<i->∃own,T.val 543 [b.AZ.l[k].dv,.l (K1 2) (b.Bh.l.map AO.dv) b.Bh.t,.l (K1 3) (b.Bf.l.map AV.dv) b.Bf.t]=some (.d (I 0),own)) (λi=>b.AZ.l.length-i) ?_ 0 ⟨zzK _,λk _ h=>absurd h (zzm _)⟩ (by simp);rintro B2-i ⟨hi,hg2⟩ hx;by_cases hlt:i<b.AZ.l.length
     ·have h1:(i:Int)<b.AZ.l.length:=by omega
      have h3:=wr1 (i:=i) (by omega);obtain⟨a,ha⟩:∃a,b.AZ.l[i]=a:=⟨_,rfl⟩;have hge:(b.AZ.l.map Aj.dv)[i]? = some a.dv:=by simp[hlt,ha]
      have hta:HsK 0 (K1 19,qcJ) a.dv:=by obtain⟨es,t,e,_,_,h⟩:=hpl;injection e with _ e _;subst e;exact h _ (List.mem_of_getElem? hge)
      obtain⟨n5,o5,e543,-⟩:=qcU (qwg T hS hH) 0 (ds:=[a.dv,.l (K1 2) (b.Bh.l.map AO.dv) b.Bh.t,.l (K1 3) (b.Bf.l.map AV.dv) b.Bf.t]) ⟨hta,⟨[_],rfl,ht.1,trivial⟩,⟨[_],rfl,ht.2.1,trivial⟩,trivial⟩;by_cases z5:n5=0
      ·have hx':=hx (i+1) ⟨by omega,λk hk hki=>by
        by_cases e:k=i
        ·subst e;rw[ha];exact⟨o5,z5▸e543⟩
        ·exact hg2 k hk (by omega)⟩ (by omega)
       clear hx;subst z5;simp[qiC,h1,hlt,h3,ha,e543];exact hx' _ _ (by simp)
      ·have g5:=qbV z5;clear hx;simp[qiC,h1,hlt,h3,ha,e543,z5,g5,bne];exact qaf qcA
     ·have:i=b.AZ.l.length:=by omega
      subst this;have h1:¬((b.AZ.l.length:Int)<b.AZ.l.length):=by omega
      clear hx;have hbk:HsK 0 (K1 22,qcT) b.dv:=⟨b.cells,rfl,ht⟩;obtain⟨n6,o6,e508,-⟩:=qcU (qDH T hS hH) 0 (ds:=[b.dv]) ⟨hbk,trivial⟩;obtain⟨n7,o7,e1099⟩:=qcs (qDB T hS hH) 0 (ds:=[b.dv]) ⟨hbk,trivial⟩;obtain⟨n8,o8,e510,-⟩:=qcU (qDI T hS) 0 (ds:=[.l (K1 6) (b.Holds.l.map BB.dv) b.Holds.t]) ⟨⟨[_],rfl,ht.2.2.2.2.2.2.2.2.2.2.2.2.2.2.2.2.2.2.2.2.1,trivial⟩,trivial⟩;obtain⟨n9,o9,e511,-⟩:=qcU (qDJ T hS) 0 (ds:=[.l (K1 7) (b.BG.l.map BF.dv) b.BG.t]) ⟨⟨[_],rfl,ht.2.2.2.2.2.2.2.2.2.2.2.2.2.2.2.2.2.2.2.2.2.1,trivial⟩,trivial⟩;by_cases z6:n6=0
      ·subst z6;cases n7 with
       |false=>simp[qiC,h1,e508,e1099];exact qaf qcA
       |true=>
        by_cases z8:n8=0
        ·subst z8;by_cases z9:n9=0
         ·subst z9;simp[qiC,h1,e508,e1099,e510,e511];exact qaf ⟨true,false,rfl,λ_=>⟨hg,⟨_,e504⟩,⟨_,e506⟩,λy hy=>by obtain⟨k,hk,rfl⟩:=zzO hy;exact hg2 k hk hk,⟨_,e508⟩,⟨_,e1099⟩,⟨_,e510⟩,⟨_,e511⟩⟩⟩
         ·have g9:=qbV z9;simp[qiC,h1,e508,e1099,e510,e511,z9,g9];exact qaf qcA
        ·have g8:=qbV z8;simp[qiC,h1,e508,e1099,e510,z8,g8];exact qaf qcA
      ·have g6:=qbV z6;simp[qiC,h1,e508,z6,g6];exact qaf qcA
   ·have g3:=qbV z3;simp[F1093,Fr.Aa,e1090,e504,e506,e542,z3,g3,bne];exact qaf qcA
  ·have g2:=qbV z2;simp[F1093,Fr.Aa,e1090,e504,e506,z2,g2,bne];exact qaf qcA
 ·have g1:=qbV z1;simp[F1093,Fr.Aa,e1090,e504,z1,g1,bne];exact qaf qcA
def qpy{P:Prop}{x:CG}{own:CO}(h:Anx (IsE P) x)(hx:x=some (.d (I 0),own)):P:=by obtain⟨_,h1,n,o,rfl,hp⟩:=h;rw[hx]at h1;simp at h1;exact hp h1.1.symm
def qOF(T:Tab)(hS:HS T)(s:CB):Anx (IsT (qdU s=true)) (T.val 537 [.s s]):=by
 rw[qab T (hS 537 F537 rfl) rfl];by_cases h:s.length=3
 ·have h1:((s.length:Int) != 3)=false:=by simp[h]
  simp[F537,Fr.Aa,h1];refine qb8 (λi:Nat=>⟨[(3,.d (I i)),(0,.d (.s s))],[]⟩) (λi=>i<=3/\∀(k:Nat) (hk:k<s.length),k<i->okC s[k]=true) (λi=>3-i) ?_ 0 ⟨by omega,λk _ h=>absurd h (zzm _)⟩ (by simp);rintro B-i ⟨hi,hg⟩ hx;by_cases hlt:i<3
  ·have hi2:i<s.length:=by omega
   have h1:(i:Int)<3:=by omega
   have h2:(i:Int)<s.length:=by omega
   have h3:=wr1 (i:=i) (by omega);by_cases ho:okC s[i]=true
   ·have hx':=hx (i+1) ⟨by omega,λk hk hki=>by
     by_cases e:k=i
     ·subst e;exact ho
     ·exact hg k hk (by omega)⟩ (by omega)
    have o1:¬((s[i].toNat:Int)<65):=by simp[okC]at ho;omega
    have o2:¬((90:Int)<s[i].toNat):=by simp[okC]at ho;omega
    simp[qod,↓qct,↓qbc,h1,h2,hi2,h3,o1,o2];exact hx' _ _ (by simp)
   ·by_cases o1:(s[i].toNat:Int)<65
    ·simp[qod,↓qct,↓qbc,h1,h2,hi2,h3,o1];exact qaf qcA
    ·have o2:(90:Int)<s[i].toNat:=by simp[okC]at ho;omega
     simp[qod,↓qct,↓qbc,h1,h2,hi2,h3,o1,o2];exact qaf qcA
  ·have:i=3:=by omega
   subst this;simp[qod];exact qaf ⟨true,false,rfl,λ_=>by
    unfold qdU;simp only[zzf,zzq,List.all_eq_true];exact⟨λx hx=>by obtain⟨k,hk,rfl⟩:=zzO hx;exact hg k hk (by omega),h⟩⟩
 ·have h1:((s.length:Int) != 3)=true:=by simp;omega
  simp[F537,Fr.Aa,h1];exact qaf qcA
def qOC(T:Tab)(hS:HS T)(l:CL AO)(t:CO)(hl:l.length<=maxLen):Anx (IsE (∀c∈l,qdU c.Code=true)) (T.val 504 [.l (K1 2) (l.map AO.dv) t]):=by
 have hm:=mxl;rw[qab T (hS 504 F504 rfl) rfl];by_cases g1:(l.length:Int)<1
 ·simp[F504,Fr.Aa,g1];exact qaf (qba (by decide))
 by_cases g8:(8:Int)<l.length
 ·simp[F504,Fr.Aa,g1,g8];exact qaf (qba (by decide))
 simp[F504,Fr.Aa,g1,g8];refine qb8 (λi:Nat=>⟨[(3,.d (I i)),(0,.d (.l (K1 2) (l.map AO.dv) t))],[]⟩) (λi=>i<=l.length/\∀(k:Nat) (h:k<l.length),k<i->qdU l[k].Code=true) (λi=>l.length-i) ?_ 0 ⟨zzK _,λk _ h=>absurd h (zzm _)⟩ (by simp);rintro B-i ⟨hi,hg⟩ hx;by_cases hlt:i<l.length
 ·have h1:(i:Int)<l.length:=by omega
  have h3:=wr1 (i:=i) (by omega);obtain⟨a,ha⟩:∃a,l[i]=a:=⟨_,rfl⟩;obtain⟨_,e537,c,own,rfl,hc⟩:=qOF T hS a.Code;cases c with
  |false=>simp[qkb,h1,hlt,h3,ha,e537];exact qaf (qba (by decide))
  |true=>
   have hx':=hx (i+1) ⟨by omega,λk hk hki=>by
    by_cases e:k=i
    ·subst e;rw[ha];exact hc rfl
    ·exact hg k hk (by omega)⟩ (by omega)
   clear hx;by_cases d1:a.Cm<0
   ·simp[qkb,h1,hlt,h3,ha,e537,d1];exact qaf (qba (by decide))
   by_cases d2:4<a.Cm
   ·simp[qkb,h1,hlt,h3,ha,e537,d1,d2];exact qaf (qba (by decide))
   cases i with
   |zero=>have h1':(0:Int)<l.length:=h1;have h3':IntKind.i64.wrap 1=1:=rfl;simp[qkb,h1',hlt,h3',ha,e537,d1,d2];exact hx' _ _ (by simp)
   |succ m=>
    have c1:((m+1:Nat):Int)=(m:Int)+1:=by omega
    have g1:(0:Int)<(m:Int)+1:=by omega
    have g0:(0:Int)<=(m:Int)+1:=by omega
    have g6:IntKind.i64.wrap (m:Int)=m:=wrI (by omega) (by omega);have g3:(m:Int)<l.length:=by omega
    have g5:m<l.length:=by omega
    rw[c1]at h1 h3⊢;simp[qkb,h1,hlt,h3,g0,g1,g6,g3,g5,ha,e537,d1,d2,↓qwN];repeat' (refine qcg (λh=>?_) (λh=>?_)<;>(try simp[h3]))
    all_goals first|exact qaf (qba (by decide))|exact hx' _ _ (by simp)
 ·have:i=l.length:=by omega
  subst this;have h1:¬((l.length:Int)<l.length):=by omega
  simp[qkb,h1];exact qaf ⟨0,false,rfl,λ_ y hy=>by obtain⟨k,hk,rfl⟩:=zzO hy;exact hg k hk hk⟩
def qOK(T:Tab)(hS:HS T)(s:CB)(hs:s.length<=maxLen):Anx (IsT (∀c∈s,Nm c)) (T.val 598 [.s s]):=by
 have hm:=mxl;rw[qab T (hS 598 F598 rfl) rfl];obtain⟨P,hP⟩:∃P:Prop,(∀c∈s,Nm c)=P:=⟨_,rfl⟩;rw[hP];cases s with
 |nil=>simp[F598,Fr.Aa];exact qaf qcA
 |cons c0 r=>
  have l1:1<=(c0::r).length:=by simp
  by_cases g16:(16:Int)<(r.length:Int)+1
  ·simp[F598,Fr.Aa,g16];exact qaf qcA
  have l0:(0:Int)<(r.length:Int)+1:=by omega
  have b0:=c0.toNat_lt;by_cases g1:(c0.toNat:Int)<97
  ·simp[F598,Fr.Aa,g16,↓qct,↓qbc,l0,g1];exact qaf qcA
  by_cases g2:(122:Int)<c0.toNat
  ·simp[F598,Fr.Aa,g16,↓qct,↓qbc,l0,g1,g2];exact qaf qcA
  simp[F598,Fr.Aa,g16,↓qct,↓qbc,l0,g1,g2];have h00:Nm c0:=⟨by omega,by omega⟩;generalize hs':c0::r=s at *
  have hs0:∀(k:Nat) (hk:k<s.length),k<1->Nm s[k]:=by
   subst hs';intro k hk h;have:k=0:=by omega
   subst this;exact h00
  refine qb8 (λi:Nat=>⟨[(3,.d (I i)),(0,.d (.s s))],[]⟩) (λi=>1<=i/\i<=s.length/\∀(k:Nat) (hk:k<s.length),k<i->Nm s[k]) (λi=>s.length-i) ?_ 1 ⟨by omega,by omega,hs0⟩ (by simp);rintro B-i ⟨h10,hi,hg⟩ hx;by_cases hlt:i<s.length
  ·have h1:(i:Int)<s.length:=by omega
   have h3:=wr1 (i:=i) (by omega);have hx':=λhn:Nm s[i]=>hx (i+1) ⟨by omega,by omega,λk hk' hki=>by
    by_cases e:k=i
    ·subst e;exact hn
    ·exact hg k hk' (by omega)⟩ (by omega)
   clear hx;generalize hc:s[i]=c at hx';have hb:=c.toNat_lt;simp[qv2,↓qct,↓qbc,h1,hlt,hc];repeat' (refine qcg (λh=>?_) (λh=>?_)<;>(try simp at h)<;>(try simp[h,↓qct,↓qbc,h1,hlt,h3,hc]))
   all_goals first|exact qaf qcA|exact hx' ⟨by omega,by omega⟩ _ _ (by simp)
  ·have:i=s.length:=by omega
   subst this;have h1:¬((s.length:Int)<s.length):=by omega
   simp[qv2,h1];exact qaf ⟨true,false,rfl,λ_=>hP▸λy hy=>by obtain⟨k,hk,rfl⟩:=zzO hy;exact hg k hk hk⟩
def qvY(Z:DV->Prop)(P:Prop)(r:PV×CO):Prop:=∃v b own,r=(.t [.d v,.d (.b b)],own)/\Z v/\(b=true->P)
def qOL(T:Tab)(hS:HS T)(l:CL AO)(t:CO)(s:CB)(hl:l.length<=maxLen):Anx (qvY (λv=>∃x:AO,v=x.dv) (∃c∈l,c.Code=s)) (T.val 599 [.l (K1 2) (l.map AO.dv) t,.s s]):=by
 have hm:=mxl;rw[qab T (hS 599 F599 rfl) rfl];simp[F599,Fr.Aa,qbL];refine qb8 (λi:Nat=>⟨[(6,.d (I i)),(4,.p 0 0 0),(1,.d (.s s)),(0,.d (.l (K1 2) (l.map AO.dv) t))],[some (.box (K1 2) (.d (.a [.s [],I 0])))]⟩) (λi=>i<=l.length) (λi=>l.length-i) ?_ 0 (zzK _) (by simp);rintro B-i hi hx;by_cases hlt:i<l.length
 ·have h1:(i:Int)<l.length:=by omega
  have h3:=wr1 (i:=i) (by omega);have hx':=hx (i+1) (by omega) (by omega);clear hx;have hmem:=zzs hlt;obtain⟨a,ha⟩:∃a,l[i]=a:=⟨_,rfl⟩;rw[ha]at hmem;by_cases e:a.Code=s
  ·simp[qq4,h1,hlt,h3,ha,e];exact qaf ⟨_,true,_,rfl,⟨a,rfl⟩,λ_=>⟨a,hmem,e⟩⟩
  ·have g:(a.Code==s)=false:=by simpa using e
   simp[qq4,h1,hlt,h3,ha,g];exact hx' _ _ (by simp)
 ·have:i=l.length:=by omega
  subst this;have h1:¬((l.length:Int)<l.length):=by omega
  simp[qq4,h1,qbL,qeL];exact qaf ⟨_,false,_,rfl,⟨⟨[],0⟩,rfl⟩,λh=>by cases h⟩
def qBk(T:Tab)(hS:HS T)(l:CL AGl)(t:CO)(id:Int)(hl:l.length<=maxLen):Anx (qvY (λv=>∃x:AGl,v=x.dv) (∃c∈l,c.Id=id)) (T.val 540 [.l (K1 4) (l.map AGl.dv) t,I id]):=by
 have hm:=mxl;rw[qab T (hS 540 F540 rfl) rfl];simp[F540,Fr.Aa,qbL];refine qb8 (λi:Nat=>⟨[(6,.d (I i)),(4,.p 0 0 0),(1,.d (I id)),(0,.d (.l (K1 4) (l.map AGl.dv) t))],[some (.box (K1 4) (.d (.a [I 0,I 0,I 0,.s []])))]⟩) (λi=>i<=l.length) (λi=>l.length-i) ?_ 0 (zzK _) (by simp);rintro B-i hi hx;by_cases hlt:i<l.length
 ·have h1:(i:Int)<l.length:=by omega
  have h3:=wr1 (i:=i) (by omega);have hx':=hx (i+1) (by omega) (by omega);clear hx;have hmem:=zzs hlt;obtain⟨a,ha⟩:∃a,l[i]=a:=⟨_,rfl⟩;rw[ha]at hmem;by_cases e:a.Id=id
  ·simp[qq1,h1,hlt,h3,ha,e];exact qaf ⟨_,true,_,rfl,⟨a,rfl⟩,λ_=>⟨a,hmem,e⟩⟩
  ·have g:=qbV e;simp[qq1,h1,hlt,h3,ha,e,g];exact hx' _ _ (by simp)
 ·have:i=l.length:=by omega
  subst this;have h1:¬((l.length:Int)<l.length):=by omega
  simp[qq1,h1,qbL,qeL];exact qaf ⟨_,false,_,rfl,⟨⟨0,0,0,[]⟩,rfl⟩,λh=>by cases h⟩
def qGt{l:CL AGl}{t:CO}(hl:l.length<=1000)(ho:∀y∈l,y.ok):HsK 0 (K0,[.l (K1 4) 3518437208883 tGl]) (.l (K1 4) (l.map AGl.dv) t):=
 qGP (by unfold maxLen;omega) (by omega) λx hx=>⟨x.cells,rfl,⟨_,rfl,(ho x hx).1⟩,⟨_,rfl,(ho x hx).2.1⟩,⟨_,rfl,(ho x hx).2.2.1⟩,⟨_,rfl,(ho x hx).2.2.2⟩,trivial⟩
def qOG(T:Tab)(hS:HS T)(l:CL AGl)(t:CO)(id kd:Int)(hl:l.length<=1000)(ho:∀y∈l,y.ok)(hid:(Lit.int .i64 id).wf=true)(hkd:(Lit.int .i64 kd).wf=true):∃n own,T.val 541 [.l (K1 4) (l.map AGl.dv) t,I id,I kd]=some (.d (I n),own)/\(n=0->∃c∈l,c.Id=id):=by
 obtain⟨n,own,e,-⟩:=qcU (qwf T hS) 0 (ds:=[.l (K1 4) (l.map AGl.dv) t,I id,I kd]) ⟨qGt hl ho,qcO hid,qcO hkd,trivial⟩;refine⟨n,own,e,λh0=>?_⟩;obtain⟨_,e540,v,b,o,rfl,⟨x,rfl⟩,hp⟩:=qBk T hS l t id (by unfold maxLen;omega);cases b with
 |true=>exact hp rfl
 |false=>
  exfalso;have e':T.val 541 [.l (K1 4) (l.map AGl.dv) t,I id,I kd]=some (.d (I 11),false):=by rw[qab T (hS 541 qix rfl) rfl];simp[qix,Fr.Aa,e540,qbL]
  rw[e']at e;subst h0;simp at e
def qOD(T:Tab)(hS:HS T)(l:CL AGl)(t:CO)(p:Aw)(hl:l.length<=1000)(ho:∀y∈l,y.ok)(hp:p.ok):Anx (IsE (1<=p.Bl)) (T.val 506 [.l (K1 4) (l.map AGl.dv) t,p.dv]):=by
 have hm:=mxl;rw[qab T (hS 506 qfa rfl) rfl];by_cases g1:(l.length:Int)<1
 ·simp[qfa,Fr.Aa,g1];exact qaf (qba (by decide))
 by_cases g8:(40:Int)<l.length
 ·simp[qfa,Fr.Aa,g1,g8];exact qaf (qba (by decide))
 simp[qfa,Fr.Aa,g1,g8];refine qb8 (λi:Nat=>⟨[(5,.d (I i)),(3,.p 0 0 0),(0,.d (.l (K1 4) (l.map AGl.dv) t))],[some (.box (K1 14) (.d p.dv))]⟩) (λi=>i<=l.length/\∀(k:Nat) (h:k<l.length),k<i->1<=l[k].Id) (λi=>l.length-i) ?_ 0 ⟨zzK _,λk _ h=>absurd h (zzm _)⟩ (by simp);rintro B-i ⟨hi,hg⟩ hx;by_cases hlt:i<l.length
 ·have h1:(i:Int)<l.length:=by omega
  have h3:=wr1 (i:=i) (by omega);have hok:=ho _ (zzs hlt);obtain⟨a,ha⟩:∃a,l[i]=a:=⟨_,rfl⟩;rw[ha]at hok;obtain⟨c1,o1,e539⟩:=qcs (qwe T hS) 0 (ds:=[.s a.Name]) ⟨qgB hok.2.2.2,trivial⟩;by_cases d1:a.Id<1
  ·simp[qcL,h1,hlt,h3,ha,d1];exact qaf (qba (by decide))
  have hx':=hx (i+1) ⟨by omega,λk hk hki=>by
   by_cases e:k=i
   ·subst e;rw[ha];omega
   ·exact hg k hk (by omega)⟩ (by omega)
  clear hx;by_cases d2:999<a.Id
  ·simp[qcL,h1,hlt,h3,ha,d1,d2];exact qaf (qba (by decide))
  by_cases d3:a.Kind<1
  ·simp[qcL,h1,hlt,h3,ha,d1,d2,d3];exact qaf (qba (by decide))
  by_cases d4:5<a.Kind
  ·simp[qcL,h1,hlt,h3,ha,d1,d2,d3,d4];exact qaf (qba (by decide))
  have s1:=qPX 4 (l.map AGl.dv) t i (by simp;omega);generalize (t&&i==(l.map AGl.dv).length)=fl at s1;obtain⟨_,e540,v,bf,o2,rfl,⟨x,rfl⟩,-⟩:=qBk T hS (l.take i) fl a.Ck (by rw[zzI];omega);simp only[List.map_take]at e540;have fin:∀(fr:Fr) (H:CW),True:=λ_ _=>trivial;clear fin;cases i with
  |zero=>
   have h1':(0:Int)<l.length:=h1;have h3':IntKind.i64.wrap 1=1:=rfl;have s2:∀H,slA H (K1 4) (.d (.l (K1 4) (l.map AGl.dv) t)) none (some (.d (I 0))) none=some (.d (.l (K1 4) [] fl)):=λH=>s1 H;simp only[List.take_zero]at e540;cases c1 with
   |false=>simp[qcL,h1',hlt,h3',ha,d1,d2,d3,d4,e539];exact qaf (qba (by decide))
   |true=>
    by_cases d5:a.Ck=0
    ·simp[qcL,h1',hlt,h3',ha,d1,d2,d3,d4,e539,d5];exact hx' _ _ (by simp)
    ·have q5:=qbV d5;cases bf with
     |false=>simp[qcL,h1',hlt,h3',ha,d1,d2,d3,d4,e539,d5,q5,e540,s2,qbL];exact qaf (qba (by decide))
     |true=>
      by_cases d6:x.Kind=a.Kind
      ·simp[qcL,h1',hlt,h3',ha,d1,d2,d3,d4,e539,d5,q5,e540,s2,qbL,d6,bne];exact hx' _ _ (by simp)
      ·have q6:=qbV d6;simp[qcL,h1',hlt,h3',ha,d1,d2,d3,d4,e539,d5,q5,e540,s2,qbL,d6,q6,bne];exact qaf (qba (by decide))
  |succ m=>
   have c1':((m+1:Nat):Int)=(m:Int)+1:=by omega
   have g1:(0:Int)<(m:Int)+1:=by omega
   have g0:(0:Int)<=(m:Int)+1:=by omega
   have g6:IntKind.i64.wrap (m:Int)=m:=wrI (by omega) (by omega);have g3:(m:Int)<l.length:=by omega
   have g5:m<l.length:=by omega
   rw[c1']at h1 h3 s1⊢;by_cases ho:a.Id<=l[m].Id
   ·simp[qcL,h1,hlt,h3,g0,g1,g6,g3,g5,ha,d1,d2,d3,d4,ho];exact qaf (qba (by decide))
   cases c1 with
   |false=>simp[qcL,h1,hlt,h3,g0,g1,g6,g3,g5,ha,d1,d2,d3,d4,ho,e539];exact qaf (qba (by decide))
   |true=>
    by_cases d5:a.Ck=0
    ·simp[qcL,h1,hlt,h3,g0,g1,g6,g3,g5,ha,d1,d2,d3,d4,ho,e539,d5];exact hx' _ _ (by simp)
    ·have q5:=qbV d5;cases bf with
     |false=>simp[qcL,h1,hlt,h3,g0,g1,g6,g3,g5,ha,d1,d2,d3,d4,ho,e539,d5,q5,e540,s1,qbL];exact qaf (qba (by decide))
     |true=>
      by_cases d6:x.Kind=a.Kind
      ·simp[qcL,h1,hlt,h3,g0,g1,g6,g3,g5,ha,d1,d2,d3,d4,ho,e539,d5,q5,e540,s1,qbL,d6,bne];exact hx' _ _ (by simp)
      ·have q6:=qbV d6;simp[qcL,h1,hlt,h3,g0,g1,g6,g3,g5,ha,d1,d2,d3,d4,ho,e539,d5,q5,e540,s1,qbL,d6,q6,bne];exact qaf (qba (by decide))
 ·have:i=l.length:=by omega
  subst this;have h1:¬((l.length:Int)<l.length):=by omega
  have hall:∀y∈l,1<=y.Id:=λy hy=>by obtain⟨k,hk,rfl⟩:=zzO hy;exact hg k hk hk
  clear hx;obtain⟨iL,hiL⟩:∃iL:CE,iL=[p.Cash,p.Cg,p.Ci,p.Cf,p.Bl,p.Tax,p.BZ,p.Loans,p.Cc,p.Cb,p.Cj,p.Ca,p.Loss,p.Ce]:=⟨_,rfl⟩;obtain⟨kL,hkL⟩:∃kL:CE,kL=[1,2,5,4,4,2,1,1,4,4,2,5,5,4]:=⟨_,rfl⟩;have li:iL.length=14:=by rw[hiL];rfl
  have lk:kL.length=14:=by rw[hkL];rfl
  have wi:∀x∈iL,(Lit.int .i64 x).wf=true:=by rw[hiL];simp only[List.forall_mem_cons,zzC,false_imp_iff,implies_true,and_true];exact hp
  have wk:∀x∈kL,(Lit.int .i64 x).wf=true:=by rw[hkL];decide
  have i4:∀h:4<iL.length,iL[4]=p.Bl:=by subst hiL;intro _;rfl
  simp[qcL,h1,qdD,qdF,qdE,qgq,putAt,qai,qaj];refine qb8 (λi:Nat=>⟨[(11,.d (I i)),(10,.r 0 K0 0 14 true),(9,.r 1 K0 0 14 true),(0,.d (.l (K1 4) (l.map AGl.dv) t))],[some (.sl K0 0 (kL.map λn=>I n)),some (.sl K0 0 (iL.map λn=>I n))]⟩) (λi=>i<=14/\(5<=i->∃c∈l,c.Id=p.Bl)) (λi=>14-i) ?_ 0 ⟨by omega,by omega⟩ (by rw[hiL,hkL];simp);rintro B2-i ⟨hi,hg⟩ hx;by_cases hlt:i<14
  ·have h1:(i:Int)<14:=by omega
   have h3:=wr1 (i:=i) (by omega);have gi:iL[i]? = some (iL[i]'(by omega)):=zze _;have gk:kL[i]? = some (kL[i]'(by omega)):=zze _;obtain⟨m,o3,e541,hm5⟩:=qOG T hS l t (iL[i]'(by omega)) (kL[i]'(by omega)) hl ho (wi _ (zzs _)) (wk _ (zzs _));by_cases z:m=0
   ·have hx':=hx (i+1) ⟨by omega,λh5=>by
     by_cases h4:i=4
     ·subst h4;rw[<-i4 (by omega)];exact hm5 z
     ·exact hg (by omega)⟩ (by omega)
    clear hx;subst z;simp[qoc,h1,hlt,h3,li,lk,e541,↓qcu,↓qcS,zzj];exact hx' _ _ (by simp)
   ·have g:=qbV z;clear hx;simp[qoc,h1,hlt,h3,li,lk,e541,z,g,bne,↓qcu,↓qcS,zzj];exact qaf (qba z)
  ·have:i=14:=by omega
   subst this;obtain⟨c,hc,e⟩:=hg (by omega);simp[qoc,li];exact qaf ⟨0,false,rfl,λ_=>by rw[<-e];exact hall c hc⟩
def qOM(T:Tab)(hS:HS T)(hH:BH T)(f:Ao)(hf:HsK 0 (K1 10,qnR) f.dv)(hn:f.Name.length<=maxLen):∃n own,T.val 601 [f.dv]=some (.d (I n),own)/\(n=0->∀c∈f.Name,Nm c):=by
 obtain⟨n,own,e,-⟩:=qcU (qwl T hS hH) 0 (ds:=[f.dv]) ⟨hf,trivial⟩;refine⟨n,own,e,λh0=>?_⟩;obtain⟨_,e598,c,o,rfl,hp⟩:=qOK T hS f.Name hn;cases c with
 |true=>exact hp rfl
 |false=>
  exfalso;have e':T.val 601 [f.dv]=some (.d (I 4),false):=by rw[qab T (hS 601 qiz rfl) rfl];simp[qiz,Fr.Aa,e598]
  rw[e']at e;subst h0;simp at e
def qOH(T:Tab)(hS:HS T)(hH:BH T)(p:Aj)(hp:HsK 0 (K1 19,qcJ) p.dv)(hok:p.ok)(l:CL AO)(t:CO)(hl:l.length<=maxLen)(hC:HsK 0 (K0,[.l (K1 2) 5864062014805 qin]) (.l (K1 2) (l.map AO.dv) t))(D:DV)(hD:HsK 0 (K0,[.l (K1 3) 2199023255552 qhx]) D):∃n own,T.val 543 [p.dv,.l (K1 2) (l.map AO.dv) t,D]=some (.d (I n),own)/\(n=0->∃c∈l,c.Code=p.Au):=by
 obtain⟨n,own,e,-⟩:=qcU (qwg T hS hH) 0 (ds:=[p.dv,.l (K1 2) (l.map AO.dv) t,D]) ⟨hp,hC,hD,trivial⟩;refine⟨n,own,e,λh0=>?_⟩;obtain⟨_,e599,v,b,o,rfl,⟨x,rfl⟩,hc⟩:=qOL T hS l t p.Au hl;obtain⟨c1,o1,e598⟩:=qcs (qkk T hS) 0 (ds:=[.s p.Name]) ⟨qgB hok.1,trivial⟩;cases b with
 |true=>exact hc rfl
 |false=>
  exfalso;have e':∃m,T.val 543 [p.dv,.l (K1 2) (l.map AO.dv) t,D]=some (.d (I m),false)/\m≠0:=by
   rw[qab T (hS 543 F543 rfl) rfl];cases c1 with
   |false=>refine⟨4,?_,by decide⟩;simp[F543,Fr.Aa,e598]
   |true=>refine⟨14,?_,by decide⟩;simp[F543,Fr.Aa,e598,e599,qbL]
  obtain⟨m,k1,k2⟩:=e';rw[k1]at e;subst h0;simp at e;exact k2 e.1
def qxM{p:Aj}(hp:HsL 0 qcJ p.cells):∀f∈p.AQ.l,HsK 0 (K1 10,qnR) f.dv:=by obtain⟨es,t,e,_,_,h⟩:=hp.2.2.2.2.2.2.2.2.2.2.2.2.2.2.2.2.2.1;injection e with _ e _;subst e;exact λx hx=>h _ (List.mem_map_of_mem hx)
def qPC{p:Aj}(hp:HsL 0 qcJ p.cells):∀f∈p.BA.l,HsK 0 (K1 6,qvh) f.dv:=by obtain⟨es,t,e,_,_,h⟩:=hp.2.2.2.2.2.2.2.2.2.2.2.2.2.2.2.2.2.2.1;injection e with _ e _;subst e;exact λx hx=>h _ (List.mem_map_of_mem hx)
def qOI(T:Tab)(hS:HS T)(hH:BH T)(p:Aj)(hp:HsL 0 qcJ p.cells)(hok:p.ok)(C D:DV)(hC:HsK 0 (K0,[.l (K1 2) 5864062014805 qin]) C)(hD:HsK 0 (K0,[.l (K1 3) 2199023255552 qhx]) D):Anx (IsE (∀f∈p.AQ.l,∀c∈f.Name,Nm c)) (T.val 543 [p.dv,C,D]):=by
 have hm:=mxl;obtain⟨c1,o1,e598⟩:=qcs (qkk T hS) 0 (ds:=[.s p.Name]) ⟨qgB hok.1,trivial⟩;obtain⟨vs,o2,e599,h599⟩:=qro T hS 0 [C,.s p.Au] ⟨hC,qgB hok.2.1,trivial⟩;obtain⟨ws,o3,e513,h513⟩:=qwd T hS 0 [D,.s p.Cn] ⟨hD,qgB hok.2.2.1,trivial⟩;obtain⟨c4,o4,e544⟩:=qcs (qhP T hS) 0 (ds:=[I p.From]) ⟨qcO hok.2.2.2.1,trivial⟩;obtain⟨v0,v1,rfl,⟨cu,rfl⟩,⟨c2,rfl⟩⟩:=qQt h599;obtain⟨w0,w1,rfl,⟨q0,q1,q2,rfl⟩,⟨c3,rfl⟩⟩:=qQs h513;have hcr:HsK 0 (K1 5,qvg) p.Bv.dv:=⟨p.Bv.cells,rfl,qkJ 5 (qkI 7 hp)⟩;have hde:HsK 0 (K1 5,qvg) p.Bu.dv:=⟨p.Bu.cells,rfl,qkJ 5 (qkI 12 hp)⟩;obtain⟨n1,o5,e600,-⟩:=qcU (qrp T hS) 0 (ds:=[p.Bv.dv]) ⟨hcr,trivial⟩;obtain⟨n2,o6,e600',-⟩:=qcU (qrp T hS) 0 (ds:=[p.Bu.dv]) ⟨hde,trivial⟩;simp only[qbi,zzu,List.map_nil]at e599 e513;rw[qab T (hS 543 F543 rfl) rfl];cases c1 with
 |false=>simp[F543,Fr.Aa,e598];exact qaf (qba (by decide))
 |true=>
  cases c2 with
  |false=>simp[F543,Fr.Aa,e598,e599,qbL];exact qaf (qba (by decide))
  |true=>
   cases c3 with
   |false=>simp[F543,Fr.Aa,e598,e599,e513,qbL];exact qaf (qba (by decide))
   |true=>
    by_cases z1:n1=0
    ·subst z1;by_cases z2:n2=0
     ·subst z2;simp[F543,Fr.Aa,e598,e599,e513,qbL,e544,e600,e600'];repeat' (refine qcg (λh=>?_) (λh=>?_)<;>(try simp at h)<;>(try simp[h,e544,e600,e600']))
      all_goals first|exact qaf (qba (by decide))|skip
      all_goals
       refine qb8 (λi:Nat=>⟨[(14,.d (I i)),(3,.p 0 0 0)],[some (.box (K1 19) (.d p.dv))]⟩) (λi=>i<=p.AQ.l.length/\∀(k:Nat) (h:k<p.AQ.l.length),k<i->∀c∈p.AQ.l[k].Name,Nm c) (λi=>p.AQ.l.length-i) ?_ 0 ⟨zzK _,λk _ h=>absurd h (zzm _)⟩ (by simp);rintro B-i ⟨hi,hg⟩ hx;by_cases hlt:i<p.AQ.l.length
       ·have h1:(i:Int)<p.AQ.l.length:=by have:=hok.2.2.2.2.2.2.2.2.2.1.1;omega
        have h3:IntKind.i64.wrap ((i:Int)+1)=(i:Int)+1:=wrI (by omega) (by have:=hok.2.2.2.2.2.2.2.2.2.1.1;omega);obtain⟨a,ha⟩:∃a,p.AQ.l[i]=a:=⟨_,rfl⟩;have hma:a∈p.AQ.l:=by rw[<-ha];exact zzs hlt
        have hta:=qxM hp a hma;obtain⟨n,o7,e601,hn⟩:=qOM T hS hH a hta (hok.2.2.2.2.2.2.2.2.2.1.2 a hma).1;by_cases z3:n=0
        ·have hx':=hx (i+1) ⟨by omega,λk hk hki=>by
          by_cases e:k=i
          ·subst e;rw[ha];exact hn z3
          ·exact hg k hk (by omega)⟩ (by omega)
         clear hx;subst z3;simp[qq2,h1,hlt,h3,ha,e601];exact hx' _ _ (by simp)
        ·have g3:=qbV z3;clear hx;simp[qq2,h1,hlt,h3,ha,e601,z3,g3,bne];exact qaf (qba z3)
       ·have:i=p.AQ.l.length:=by omega
        subst this;have h1:¬((p.AQ.l.length:Int)<p.AQ.l.length):=by omega
        have hall:∀f∈p.AQ.l,∀c∈f.Name,Nm c:=λy hy=>by obtain⟨k,hk,rfl⟩:=zzO hy;exact hg k hk hk
        clear hx;simp[qq2,h1];refine qb8 (λi:Nat=>⟨[(16,.d (I i)),(3,.p 0 0 0)],[some (.box (K1 19) (.d p.dv))]⟩) (λi=>i<=p.BA.l.length) (λi=>p.BA.l.length-i) ?_ 0 (zzK _) (by simp);rintro B2-i hi hx;by_cases hlt:i<p.BA.l.length
        ·have h1:(i:Int)<p.BA.l.length:=by have:=hok.2.2.2.2.2.2.2.2.2.2.1;omega
         have h3:IntKind.i64.wrap ((i:Int)+1)=(i:Int)+1:=wrI (by omega) (by have:=hok.2.2.2.2.2.2.2.2.2.2.1;omega);have hx':=hx (i+1) (by omega) (by omega);clear hx;obtain⟨a,ha⟩:∃a,p.BA.l[i]=a:=⟨_,rfl⟩;have hma:a∈p.BA.l:=by rw[<-ha];exact zzs hlt
         obtain⟨n,o7,e602,-⟩:=qcU (qwm T hS hH) 0 (ds:=[a.dv]) ⟨qPC hp a hma,trivial⟩;by_cases z3:n=0
         ·subst z3;simp[qq3,h1,hlt,h3,ha,e602];exact hx' _ _ (by simp)
         ·have g3:=qbV z3;simp[qq3,h1,hlt,h3,ha,e602,z3,g3,bne];exact qaf (qba z3)
        ·have:i=p.BA.l.length:=by omega
         subst this;have h1:¬((p.BA.l.length:Int)<p.BA.l.length):=by omega
         simp[qq3,h1];exact qaf ⟨0,false,rfl,λ_=>hall⟩
     ·have g2:=qbV z2;simp[F543,Fr.Aa,e598,e599,e513,qbL,e544,e600,e600',z2,g2,bne];repeat' (refine qcg (λh=>?_) (λh=>?_)<;>(try simp at h)<;>(try simp[h,e544,e600,e600',z2,g2,bne]))
      all_goals first|exact qaf (qba (by decide))|exact qaf (qba z2)
    ·have g1:=qbV z1;simp[F543,Fr.Aa,e598,e599,e513,qbL,e544,e600,z1,g1,bne];repeat' (refine qcg (λh=>?_) (λh=>?_)<;>(try simp at h)<;>(try simp[h,e544,e600,z1,g1,bne]))
     all_goals first|exact qaf (qba (by decide))|exact qaf (qba z1)
def qtr{n:Nat}{cs es:Cy}(h:mkD (some n) cs=some (.a es)):es=cs:=by
 simp only[mkD]at h;split at h
 ·injection h with h;injection h with h;exact h.symm
 ·cases h
def qGy(T:Tab)(hS:HS T)(p:Aj)(ht:HsL 0 qcJ p.cells):∃c own,T.val 1095 [p.dv]=some (.d (.b c),own)/\(c=false->p.AQ.l.length<=10/\∀f∈p.AQ.l,f.Name.length<=100):=by
 obtain⟨c,own,e⟩:=qcs (qwb T hS) 0 (ds:=[p.dv]) ⟨⟨p.cells,rfl,ht⟩,trivial⟩;refine⟨c,own,e,λhc=>?_⟩;subst hc;have hm:=mxl;rw[qab T (hS 1095 F1095 rfl) rfl]at e;by_cases h1:(100:Int)<p.Name.length
 ·simp[F1095,Fr.Aa,h1]at e
 by_cases h2:(100:Int)<p.Au.length
 ·simp[F1095,Fr.Aa,h1,h2]at e
 by_cases h3:(100:Int)<p.Cn.length
 ·simp[F1095,Fr.Aa,h1,h2,h3]at e
 by_cases h4:(20:Int)<p.Bv.Bt.l.length
 ·simp[F1095,Fr.Aa,h1,h2,h3,h4]at e
 by_cases h5:(20:Int)<p.Bu.Bt.l.length
 ·simp[F1095,Fr.Aa,h1,h2,h3,h4,h5]at e
 by_cases h6:(10:Int)<p.AQ.l.length
 ·simp[F1095,Fr.Aa,h1,h2,h3,h4,h5,h6]at e
 by_cases h7:(10:Int)<p.BA.l.length
 ·simp[F1095,Fr.Aa,h1,h2,h3,h4,h5,h6,h7]at e
 refine⟨by omega,λf hf=>?_⟩;apply Nat.not_lt.1;intro hbad;obtain⟨j,hj,rfl⟩:=zzO hf;simp[F1095,Fr.Aa,h1,h2,h3,h4,h5,h6,h7]at e;refine absurd (e.symm.trans (?_:_=some (PV.d (.b true),false))) (by simp);refine qcq (λi:Nat=>⟨[(3,.d (I i)),(1,.p 0 0 0)],[some (.box (K1 19) (.d p.dv))]⟩) (λi=>i<=j) (λi=>j-i) ?_ 0 (zzK _) (by simp);rintro B-i hi hx;have hlt:i<p.AQ.l.length:=by omega
 have g1:(i:Int)<p.AQ.l.length:=by omega
 have g3:IntKind.i64.wrap ((i:Int)+1)=(i:Int)+1:=wrI (by omega) (by omega);by_cases hij:i=j
 ·subst hij;have g2:(100:Int)<(p.AQ.l[i].Name.length:Int):=by omega
  simp[qmn,g1,hlt,g2];done
 ·have hx':=hx (i+1) (by omega) (by omega);clear hx;obtain⟨a,ha⟩:∃a,p.AQ.l[i]=a:=⟨_,rfl⟩;have hta:HsL 0 qnR a.cells:=by obtain⟨cs,ec,h⟩:=qxM ht a (by rw[<-ha];exact zzs hlt);rw[show a.cells=cs from qtr ec];exact h
  by_cases g2:(100:Int)<(a.Name.length:Int)
  ·simp[qmn,g1,hlt,ha,g2];done
  ·obtain⟨c1,o1,e1⟩:=qcs (qrq T hS) 0 (ds:=[a.When.dv,I 100]) ⟨⟨a.When.cells,rfl,qkJ 4 (qkI 2 hta)⟩,qcO (by decide),trivial⟩;obtain⟨c2,o2,e2⟩:=qcs (qrq T hS) 0 (ds:=[a.Amount.dv,I 100]) ⟨⟨a.Amount.cells,rfl,qkJ 4 (qkI 6 hta)⟩,qcO (by decide),trivial⟩;cases c1 with
   |true=>simp[qmn,g1,hlt,ha,g2,e1];done
   |false=>
    cases c2 with
    |true=>simp[qmn,g1,hlt,ha,g2,e1,e2];done
    |false=>simp[qmn,g1,hlt,ha,g2,e1,e2,g3];exact hx' _ _ (by simp)
def qGx(T:Tab)(hS:HS T)(b:Af)(ht:HsL 0 qcT b.cells):∃c own,T.val 1090 [b.dv]=some (.d (.b c),own)/\(c=false->∀p∈b.AZ.l,p.AQ.l.length<=10/\∀f∈p.AQ.l,f.Name.length<=100):=by
 obtain⟨c,own,e,hfew⟩:=qBj T hS b ht;refine⟨c,own,e,λhc p hp=>?_⟩;have hlen:=hfew hc;subst hc;unfold few at hlen;have hh:=ht.2.2.2.2.2.2.2.2.2.2.2.2.2.2.2.2.2.2.2.2.1;have hpl:=ht.2.2.2.2.2.2.2.2.2.2.2.2.2.2.2.2.2.1;obtain⟨q,o,e1⟩:=qcs (qrn T hS) 0 (ds:=[.l (K1 6) (b.Holds.l.map BB.dv) b.Holds.t]) ⟨⟨[_],rfl,hh,trivial⟩,trivial⟩;rw[qab T (hS 1090 F1090 rfl) rfl]at e;have h1:¬((20:Int)<b.Bh.l.length):=by omega
 have h2:¬((10:Int)<b.Bf.l.length):=by omega
 have h3:¬((60:Int)<b.BD.l.length):=by omega
 have h4:¬((20:Int)<b.AZ.l.length):=by omega
 have h5:¬((40:Int)<b.A7.l.length):=by omega
 have h6:¬((150:Int)<b.Bc.l.length):=by omega
 have h8:¬((100:Int)<b.BG.l.length):=by omega
 cases q with
 |true=>simp[F1090,Fr.Aa,h1,h2,h3,h4,h5,h6,e1]at e
 |false=>
 apply Classical.byContradiction;intro hbad;obtain⟨j,hj,rfl⟩:=zzO hp;simp[F1090,Fr.Aa,h1,h2,h3,h4,h5,h6,e1,h8]at e;refine absurd (e.symm.trans (?_:_=some (PV.d (.b true),false))) (by simp);refine qcq (λi:Nat=>⟨[(3,.d (I i)),(1,.p 0 0 0)],[some (.box (K1 22) (.d b.dv))]⟩) (λi=>i<=j) (λi=>j-i) ?_ 0 (zzK _) (by simp);rintro B-i hi hx;have hlt:i<b.AZ.l.length:=by omega
 have g1:(i:Int)<b.AZ.l.length:=by omega
 have g3:IntKind.i64.wrap ((i:Int)+1)=(i:Int)+1:=wrI (by omega) (by omega);obtain⟨a,ha⟩:∃a,b.AZ.l[i]=a:=⟨_,rfl⟩;have hta:HsL 0 qcJ a.cells:=by obtain⟨es,t,e,_,_,h⟩:=hpl;injection e with _ e _;subst e;obtain⟨cs,ec,h⟩:=h a.dv (List.mem_map_of_mem (by rw[<-ha];exact zzs hlt));rw[show a.cells=cs from qtr ec];exact h
 obtain⟨c1,o1,e2,k⟩:=qGy T hS a hta;cases c1 with
 |true=>simp[qv0,g1,hlt,ha,e2];done
 |false=>have hij:i≠j:=λh=>hbad (by subst h;rw[ha];exact k rfl);have hx':=hx (i+1) (by omega) (by omega);clear hx;simp[qv0,g1,hlt,ha,e2,g3];exact hx' _ _ (by simp)
end
def Raw.sndC{T:Tab}(hS:HS T)(hH:BH T){b:Af}(hb:b.ok)(ht:HsL 0 qcT b.cells)(r:Raw T b):SndC b:=by
 have hm:=mxl;have hlen:=r.gr;unfold few at hlen;obtain⟨_,e1⟩:=r.cu;obtain⟨_,e2⟩:=r.pl;obtain⟨_,e3⟩:=r.ac;refine⟨qpy (qOC T hS b.Bh.l b.Bh.t (by omega)) e1,qpy (qOD T hS b.BD.l b.BD.t b.AA (by omega) hb.2.2.1.2 hb.2.2.2.1) e2,λp hp=>?_,λa ha=>(qpy (qOE T hS hH b hb ht) e3 a ha).2⟩;obtain⟨_,e5⟩:=r.pr p hp;have hok:=hb.2.2.2.2.1.2 p hp;have hta:HsK 0 (K1 19,qcJ) p.dv:=by obtain⟨es,t,e,_,_,h⟩:=ht.2.2.2.2.2.2.2.2.2.2.2.2.2.2.2.2.2.1;injection e with _ e _;subst e;exact h _ (List.mem_map_of_mem hp)
 have hC:HsK 0 (K0,[.l (K1 2) 5864062014805 qin]) (.l (K1 2) (b.Bh.l.map AO.dv) b.Bh.t):=⟨[_],rfl,ht.1,trivial⟩;have hD:HsK 0 (K0,[.l (K1 3) 2199023255552 qhx]) (.l (K1 3) (b.Bf.l.map AV.dv) b.Bf.t):=⟨[_],rfl,ht.2.1,trivial⟩;obtain⟨n,own,e6,k⟩:=qOH T hS hH p hta hok b.Bh.l b.Bh.t (by omega) hC _ hD;rw[e5]at e6;simp at e6;refine⟨k e6.1.symm,?_⟩;obtain⟨cs,e7,hcs⟩:=hta;have hcells:HsL 0 qcJ p.cells:=by have:p.cells=cs:=qtr e7;rw[this];exact hcs
 exact qpy (qOI T hS hH p hcells hok _ _ hC hD) e5
def qOB(T:Tab)(hS:HS T)(hH:BH T)(b:Af)(hb:b.ok)(ht:HsL 0 qcT b.cells):Anx (IsT (SndC b)) (T.val 1093 [b.dv]):=by obtain⟨_,e,c,own,rfl,h⟩:=qOW T hS hH b hb ht;exact⟨_,e,c,own,rfl,λhc=>(h hc).sndC hS hH hb ht⟩
section
attribute [local simp ↓] qbm qbn qbg qbz qbp qbJ qbd qbf qbw qbA qbB qbu qbv qbe qby qbj qbR qbQ qdZ qbH qbE qd8 qd7 qbl qdV qb2 qdW qdY qdX qbG qbF qd1 qd3 qd6 qd5 qd4 qd0 qd2 qd9 qbC qbD
attribute [local simp] qbh qa3 Ar Az qas qaP chg qaY runs qaM qaX PV.refs PV.Av IOp.okD IOp.Bg qbk Nat.testBit
attribute [local simp] gc Fr.keep qaH qaw qat PV.refs PV.Av qaJ gcH qaO Obj.refs PV.ren PV.Bp Obj.ren Heap.obj Fr.ren gh zzd
def qI1(T:Tab)(h:HEv T)(hN:HN T)(hS0:HS T)(hP:HP T)(hI2:HI2 T)(h8:H8 T)(hc:HCl T 956 (K1 4) 56)(h10:H10 T)(hC:HCh T)(hj:∀ds,T.val 718 ds=qjh ds)(hl:T.val 1123 []=some (.d (.b true),false))(b:Af)(hb:b.ok)(ht:HsL 0 qcT b.cells)(i d ev am:Int)(hS:Anx (IsT (SndC b)) (T.val 1093 [b.dv])) :
  T.val 1132 [b.dv,.a [I i,I d,I ev,I am]]=some (.d (.b true),false):=by
 have hm:=mxl;obtain⟨c0,o0,e0,hgr⟩:=qGx T hS0 b ht;cases c0 with
 |true=>rw[qab T (hC 1132 qek rfl) rfl];simp[qek,Fr.Aa,e0,hl];done
 |false=>
 have hgr:=hgr rfl;have hf:=λp hp=>zzL (hgr p hp).1 (show 10<=1000 by decide);have hnm:=λp hp=>(hgr p hp).2;obtain⟨M,hM,hp,he,hK⟩:=qFD T b hnm i d ev am;have e1:=qC2 T h h8 hc b hb hf i d ev am;have e2:=qRl T h h8 hc h10 hj b hb hf i d ev am [107] M hM hp;have hlen:=qxs T b hf i d ev am;rw[hM]at e1 hlen;rw[zzo]at hlen;generalize (qcv T b i d ev am).2=e at *
 have hp0:∀p∈M,0<p.2:=λp h=>(hp p h).1;by_cases hz:e=0
 ·subst hz;have e3:=λt=>qQB T h10 M t hlen;rw[qab T (hC 1132 qek rfl) rfl];by_cases hM0:M=[]
  ·subst hM0;have hE:qdo b i d [107] [] 0=(zE,false,0):=by unfold qdo;rw[if_pos (.inr rfl)]
   rw[hE]at e2;simp only[qhy]at e2;simp[qek,Fr.Aa,qa6,e0,e1,e2,zE,qbL];refine qz8 T [] true (by simp) hp0 zE (.a [I i,I d,I ev,I am]) b.dv false ?_ (by simp[zE]);simp[hl,zE,qa6];done
  ·have hM1:¬((M.length:Int)=0):=λh=>hM0 (List.length_eq_zero_iff.1 (by omega));have hM2:(0:Int)<M.length:=by omega
   have hM3:0<M.length:=by omega
   cases hs:qdz M 0 with
   |none=>
    have hE:qdo b i d [107] M 0=(zE,false,6):=by unfold qdo;rw[if_neg (by simp[hM0]),hs]
    rw[hE]at e2;simp only[qhy]at e2;simp[qek,Fr.Aa,qa6,e0,e1,e2,zE,qbL,hM2,hM3,hl,bne];done
   |some n=>
    obtain⟨s1,s2,s3,s4⟩:=qCu M 0 n hp0 (by decide) (by decide) hs;have s5:0<n:=s4 hM0;have hE:qdo b i d [107] M 0=(qcE b i d [107] M n,true,0):=by unfold qdo;rw[if_neg (by simp[hM0]),hs]
    rw[hE]at e2;simp only[qhy]at e2;have ht:qjH M=n:=s3;rw[ht]at e3;generalize (M.map chD).isEmpty=t at *
    have e4:=qCN T hN hP hI2 [⟨i,n,qb1 b i d⟩,⟨b.AA.Bl,-n,qb1 b i d⟩] false (by simp) (by
     intro x hx;simp only[List.mem_cons,zzC,or_false]at hx;rcases hx with rfl|rfl<;>exact wrI (by simp only;omega) (by simp only;omega))
    rw[qyN]at e4;simp only[zzu,List.map_nil]at e4;have hent:fits (K1 10) (.d (qcE b i d [107] M n))=true:=rfl;simp[qek,Fr.Aa,qa6,e0,e1,e2,hent,bne];refine qz8 T M t hlen hp0 (qcE b i d [107] M n) (.a [I i,I d,I ev,I am]) b.dv true ?_ (by simp);simp[hM2,hM3];refine qJq T b (.l (K1 2) (M.map chD) t) i d ev am n M (by omega) s2 ?_ (by simp);obtain⟨_,e5,c,own,rfl,hc5⟩:=hS;have hk:=hK hM0;have e6:c=true->T.val 111 [qcE b i d [107] M n]=some (.d (I 0),false):=λhcc=>by have h111:=qQA T hN hP hI2 (qhX b i d M n) (qFH hb hk (by omega) s2);rw[qFI (hc5 hcc) hk (by omega) s2]at h111;exact h111
    have e4':T.val 186 [.l (K1 3) [.a [I i,I n,.s (qb1 b i d)],.a [I b.AA.Bl,I (-n),.s (qb1 b i d)]] false]=some (.d (.l (K1 2) [.a [.s (qb1 b i d),I 0]] false),true):=e4;by_cases g:i=b.AA.Bl
    ·subst g;have he:qcE b b.AA.Bl d [107] M n=.a [I 0,I d,I d,I 6,I 1,I 0,.s [107],.s ((jn M).take 64),.l (K1 3) [.a [I b.AA.Bl,I n,.s (qb1 b b.AA.Bl d)],.a [I b.AA.Bl,I (-n),.s (qb1 b b.AA.Bl d)]] false,.i .u64 0]:=rfl;simp[he,qa6,e4',hl,bne];done
    ·have g1:(i==b.AA.Bl)=false:=by simpa using g
     have g2:tkF i b.AA.Bl n 2=n:=by unfold tkF;exact if_neg λh=>g h.symm
     have he:qcE b i d [107] M n=.a [I 0,I d,I d,I 6,I 1,I 0,.s [107],.s ((jn M).take 64),.l (K1 3) [.a [I i,I n,.s (qb1 b i d)],.a [I b.AA.Bl,I (-n),.s (qb1 b i d)]] false,.i .u64 0]:=rfl;rw[he]at e6;cases c with
     |false=>simp[he,qa6,e4',g,g1,g2,hl,bne,e3,e5];done
     |true=>have e6:=e6 rfl;simp[he,qa6,e4',g,g1,g2,hl,bne,e3,e5,e6];done
 ·have hM0:=he hz;subst hM0;have g:(e==0)=false:=by simpa using hz
  have hE:qdo b i d [107] [] e=(zE,false,e):=by unfold qdo;rw[if_pos (.inl hz)]
  rw[hE]at e2;simp only[qhy]at e2;rw[qab T (hC 1132 qek rfl) rfl];simp[qek,Fr.Aa,qa6,e0,e1,e2,hz,g,bne,zE,qbL,hl];done
def qQu{xs:Cy}{x:Af}(e:DV.a xs=x.dv)(h:qaD Af.ty xs):qaD Af.ty x.cells:=by have:xs=x.cells:=DV.a.inj e;rw[<-this];exact h
def qI2(T:Tab)(h:HEv T)(hN:HN T)(hS:HS T)(hP:HP T)(hI2:HI2 T)(h8:H8 T)(hc:HCl T 956 (K1 4) 56)(h10:H10 T)(hC:HCh T)(hj:∀ds,T.val 718 ds=qjh ds)(hl:T.val 1123 []=some (.d (.b true),false))(b:Af)(hb:b.ok)(ht:qaD Af.ty b.cells)(i d ev am:Int):T.val 1132 [b.dv,.a [I i,I d,I ev,I am]]=some (.d (.b true),false):=
 qI1 T h hN hS hP hI2 h8 hc h10 hC hj hl b hb (qwH ht) i d ev am (qOB T hS (qGI T hS h.hU hP) b hb (qwH ht))
