/- Which slots are still read: notes for the abstract machine (nothing hangs on their being right). -/
import Derived.Test.YtbbboagbgimaaaaDoorCbSimD
namespace Go.Sim
def unionL (a b : List Nat) : List Nat := b.foldl (fun acc x => if acc.contains x then acc else x :: acc) a
def lvOps (out : List Nat) : List IOper → List Nat
  | [] => out
  | o :: r =>
    let l := lvOps out r
    let l := match o.dst with | some d => l.filter (· != d) | none => l
    unionL (unionL l o.op.uses) (match o.g with | some (t, _) => [t] | none => [])
def lvC (exits : List (Nat × List Nat)) (ret : List Nat) : PC → List Nat → PC × List Nat
  | .reg ops _, out =>
    let touched := ops.foldl (fun acc o => unionL (unionL acc o.dst.toList) o.op.uses) []
    (.reg ops (touched.filter (!out.contains ·)), lvOps out ops)
  | .regD ops _, out =>
    let touched := ops.foldl (fun acc o => unionL (unionL acc o.dst.toList) o.op.uses) []
    (.regD ops (touched.filter (!out.contains ·)), lvOps out ops)
  | .seq a b, out =>
    let (b', m) := lvC exits ret b out
    let (a', l) := lvC exits ret a m
    (.seq a' b', l)
  | .cond c x y, out =>
    let (x', l) := lvC exits ret x out
    let (y', m) := lvC exits ret y out
    (.cond c x' y', unionL (unionL l m) c.uses)
  | .block id x, out => let (x', l) := lvC ((id, out) :: exits) ret x out; (.block id x', l)
  | .loop _ x, _ =>
    let go := fun (L : List Nat) => unionL L (lvC exits ret x L).2
    let L := go (go (go (go (go (go [])))))
    let L := L.mergeSort
    (.loop L (lvC exits ret x L).1, L)
  | .exit id, _ => (.exit id, ((exits.find? (·.1 == id)).map (·.2)).getD [])
  | .ret, _ => (.ret, ret)
  | c, out => (c, out)
def noted (F : PF) : PF :=
  let ret := F.results.map fun | .t n => n | .c n _ => n
  { F with body := (lvC [] ret F.body ret).1 }
/-- Without the notes. -/
def bare : PC → PC
  | .reg ops _ => .reg ops []
  | .regD ops _ => .regD ops []
  | .seq a b => .seq (bare a) (bare b)
  | .cond c x y => .cond c (bare x) (bare y)
  | .block id x => .block id (bare x)
  | .loop _ x => .loop [] (bare x)
  | c => c
end Go.Sim
