/- Contracts and plain laws, merged: Res -/
import Derived.Test.YtlgjakpoaelehaaGreatProg
import Derived.WalkKit
namespace Go.Proofs.YtlgjakpoaelehaaGreat
theorem results_c1 {P:Program}{w:World}{fn:Func}{p:Tmp}{ty:TypeId}(h:fn.results=#[.cell p ty])(tmps:Array Value){a:Addr}{v:Value}(hp:tmps.getD p undef=.pointer (some a))(hl:(loadVar ty a).run P w=.ok v w):
 (results fn tmps).run P w=.ok v w:=by
 have hp':tmps[p]?.getD undef=.pointer (some a):=by simpa using hp
 simp[results,h,hp',asAddr,hl]
theorem results_ct {P:Program}{w:World}{fn:Func}{p u:Tmp}{ty:TypeId}(h:fn.results=#[.cell p ty,.tmp u])(tmps:Array Value){a:Addr}{v:Value}(hp:tmps.getD p undef=.pointer (some a))(hl:(loadVar ty a).run P w=.ok v w):
 (results fn tmps).run P w=.ok (.tuple #[v,tmps.getD u undef]) w:=by
 have hp':tmps[p]?.getD undef=.pointer (some a):=by simpa using hp
 simp[results,h,hp',asAddr,hl]
theorem results_cc {P:Program}{w:World}{fn:Func}{p p':Tmp}{ty ty':TypeId}(h:fn.results=#[.cell p ty,.cell p' ty'])(tmps:Array Value){a a':Addr}{v v':Value}(hp:tmps.getD p undef=.pointer (some a))(hl:(loadVar ty a).run P w=.ok v w)
 (hp2:tmps.getD p' undef=.pointer (some a')) (hl':(loadVar ty' a').run P w=.ok v' w):
 (results fn tmps).run P w=.ok (.tuple #[v,v']) w:=by
 have h1:tmps[p]?.getD undef=.pointer (some a):=by simpa using hp
 have h2:tmps[p']?.getD undef=.pointer (some a'):=by simpa using hp2
 simp[results,h,h1,h2,asAddr,hl,hl']
end Go.Proofs.YtlgjakpoaelehaaGreat
