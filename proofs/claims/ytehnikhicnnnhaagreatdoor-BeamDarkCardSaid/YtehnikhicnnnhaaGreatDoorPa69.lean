/- BeamDark: lemmas for its regions. -/
import Derived.Test.YtehnikhicnnnhaaGreatDoorPa25
import Derived.Test.YtehnikhicnnnhaaGreatDoorPa53
namespace Go.Proofs.YtehnikhicnnnhaaGreatDoor
open Go.RowKit
def findD(n:Nat):Code→Option Code
 |.region k ops b=>if k=n then some (.region k ops b)else none
 |.seq a b=>(findD n a).or (findD n b)
 |.block _ c=>findD n c
 |.cond _ a b=>(findD n a).or (findD n b)
 |.scope c=>findD n c
 |.loop c=>findD n c
 |_=>none
noncomputable def dkR(n:Nat):Code:=(findD n (Tryz.f11.body.getD .skip)).getD .skip
structure NBx(X:World)(Y:Fld)(b:Nat)(W:World):Prop where
 ex:∃tk ls A c xs,W.heap[b]? =some (.cells #[.int .i64 tk,.int .i64 ls,.slice A (List.length xs) c] 72 (0,0))∧fldOf tk ls xs=Y∧FldR W W.heap.size A c xs∧Blks (fun d=>X.heap.size≤d) A xs
 lo:X.heap.size≤b
 low:Below X.heap.size X W
theorem nb1{X W:World}{Y:Fld}{tk ls:Int}{A:Option Addr}{c:Nat}{zs:List MA}(h:Below X.heap.size X W)(hf:fldOf tk ls zs=Y)(hr:FldR W W.heap.size A c zs)(hfr:Blks (fun d=>X.heap.size≤d) A zs):
 NBx X Y W.heap.size (W.alloc (.cells #[.int .i64 tk,.int .i64 ls,.slice A zs.length c] 72)):=
 ⟨⟨tk,ls,A,c,zs,heap_alloc_new _ _,hf,FldR.to hr (Below.alloc (Below.refl _ _) (Nat.le_refl _) _),hfr⟩,h.size,h.alloc h.size _⟩
theorem nb2{X W:World}{Y:Fld}{b:Nat}{tk ls:Int}{A:Option Addr}{c:Nat}{zs:List MA}{u0 u1 u2:Value}(h:Below X.heap.size X W)(hl:X.heap.size≤b)(hk:W.heap[b]? =some (.cells #[u0,u1,u2] 72 (0,0)))(hf:fldOf tk ls zs=Y)(hr:FldR W W.heap.size A c zs)(hfr:Blks (fun d=>X.heap.size≤d∧d≠b) A zs):
 NBx X Y b (((W.setCell ⟨b,0,none⟩ (.int .i64 tk)).setCell ⟨b,1,none⟩ (.int .i64 ls)).setCell ⟨b,2,none⟩ (.slice A zs.length c)):=
 ⟨⟨tk,ls,A,c,zs,set3_block hk,hf,(hr.set3 _ _ _ (hfr.imp fun d hd=>hd.2)).more (by simp),hfr.imp fun d hd=>hd.1⟩,hl,Below.set3 h hl _ _ _⟩
theorem NBx.next{X W W':World}{Y:Fld}{b:Nat}(h:NBx X Y b W)(hb:Below W.heap.size W W'):NBx X Y b W':=by
 obtain⟨tk,ls,A,c,xs,h1,h2,h3,h4⟩:=h.ex
 exact⟨⟨tk,ls,A,c,xs,(hb.block b (blk_lt h1)).trans h1,h2,FldR.to h3 hb,h4⟩,h.lo,h.low.trans (hb.mono h.low.size)⟩
theorem mkRn(n:Nat)(hn:n≤1000)(W:World):(Instr.makeSlice 88 (.int .i64 (n:Int)) (.int .i64 (n:Int))).run Tryz.prog W=.ok (.slice (some ⟨W.heap.size,0,none⟩) n n) (W.alloc (.cells (madeCells #[.slice none 0 0] n) 200)):=mkRounds n hn W
theorem made_list:∀n:Nat,(madeCells #[.slice none 0 0] n).toList=List.replicate n (Value.slice none 0 0):=by
 intro n
 apply List.ext_getElem
 ·simp[madeCells]
 ·intro i h1 h2
  simp[madeCells,Nat.mod_one]
end Go.Proofs.YtehnikhicnnnhaaGreatDoor