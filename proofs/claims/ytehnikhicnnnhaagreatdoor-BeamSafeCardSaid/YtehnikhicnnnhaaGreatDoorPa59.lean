/- Steps, one after the other. | Rounds of orders in plain words. -/
import Derived.Test.YtehnikhicnnnhaaGreatDoorPa07
namespace Go.Proofs.YtehnikhicnnnhaaGreatDoor
def stepN(g:Grd)(f:Fld):Nat→Fld
 |0=>f
 |k+1=>stepG g (stepN g f k)
theorem stepN_ok{g:Grd}{f:Fld}(ho:okG g)(hu:Uniq g.mov)(h:okFld g f):∀k:Nat,f.tick+k≤20000000→okFld g (stepN g f k)∧(stepN g f k).tick=f.tick+k∧(stepN g f k).lease=f.lease
 |0,_=>⟨h,by simp[stepN],rfl⟩
 |k+1,hk=>by
  have ih:=stepN_ok ho hu h k (by omega)
  refine⟨step_ok ho hu ih.1 (by rw[ih.2.1];omega),?_,ih.2.2⟩
  show(stepN g f k).tick+1=_
  rw[ih.2.1]
  omega
def rndG(g:Grd)(f:Fld)(os:List Ord):Fld:=os.foldl (heardG g) f
def runG(g:Grd)(f:Fld)(rs:List (List Ord)):Fld:=rs.foldl (fun f os=>stepG g (rndG g f os)) f
theorem heard_tick(g:Grd)(f:Fld)(o:Ord):(heardG g f o).tick=f.tick∧(heardG g f o).lease=f.lease:=by
 unfold heardG;split<;>exact⟨rfl,rfl⟩
theorem rnd_ok{g:Grd}(ho:okG g)(hu:Uniq g.mov):∀(os:List Ord) {f:Fld},okFld g f→okFld g (rndG g f os)
 | [],_,h=>h
 |_::os,_,h=>rnd_ok ho hu os (heard_ok ho hu h)
theorem rnd_tick(g:Grd):∀(os:List Ord) (f:Fld),(rndG g f os).tick=f.tick∧(rndG g f os).lease=f.lease
 | [],f=>⟨rfl,rfl⟩
 |o::os,f=>by
  have h:=rnd_tick g os (heardG g f o)
  have k:=heard_tick g f o
  exact⟨h.1.trans k.1,h.2.trans k.2⟩
theorem run_ok{g:Grd}(ho:okG g)(hu:Uniq g.mov):∀(rs:List (List Ord)) {f:Fld},okFld g f→f.tick+rs.length≤20000000→okFld g (runG g f rs)∧(runG g f rs).tick=f.tick+rs.length
 | [],f,h,_=>⟨h,by simp[runG]⟩
 |r::rs,f,h,ht=>by
  have h1:=rnd_ok ho hu r h
  have h2:=(rnd_tick g r f).1
  simp only[List.length_cons]at ht
  have h3:=step_ok ho hu h1 (by rw[h2];omega)
  have h4:=run_ok ho hu rs h3 (by show(rndG g f r).tick+1+(rs.length:Int)≤_;rw[h2];omega)
  refine⟨h4.1,h4.2.trans ?_⟩
  show(rndG g f r).tick+1+(rs.length:Int)=_
  rw[h2,List.length_cons]
  omega
theorem run_snoc(g:Grd)(f:Fld)(rs:List (List Ord))(r:List Ord):runG g f (rs++ [r])=stepG g (rndG g (runG g f rs) r):=by unfold runG;rw[List.foldl_append];rfl
theorem rnd_snoc(g:Grd)(f:Fld)(os:List Ord)(o:Ord):rndG g f (os++ [o])=heardG g (rndG g f os) o:=by unfold rndG;rw[List.foldl_append];rfl
end Go.Proofs.YtehnikhicnnnhaaGreatDoor