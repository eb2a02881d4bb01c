/- A part of the proof: lemmas; each with the conditions that it states. -/
import Derived.Test.YtffnpejdkkohcaaGreatBaa
import Derived.Test.YtffnpejdkkohcaaGreatBab
import Derived.Test.YtffnpejdkkohcaaGreatBac
import Derived.Test.YtffnpejdkkohcaaGreatBad
import Derived.Test.YtffnpejdkkohcaaGreatBae
import Derived.Test.YtffnpejdkkohcaaGreatBaf
import Derived.Test.YtffnpejdkkohcaaGreatBag
import Derived.Test.YtffnpejdkkohcaaGreatBaj
import Derived.Test.YtffnpejdkkohcaaGreatBak
import Derived.Test.YtffnpejdkkohcaaGreatBal
import Derived.Test.YtffnpejdkkohcaaGreatBam
import Derived.Test.YtffnpejdkkohcaaGreatBaz
import Derived.Test.YtffnpejdkkohcaaGreatBan
import Derived.Test.YtffnpejdkkohcaaGreatBao
import Derived.Test.YtffnpejdkkohcaaGreatBah
import Derived.Test.YtffnpejdkkohcaaGreatBap
import Derived.Test.YtffnpejdkkohcaaGreatBaq
import Derived.Test.YtffnpejdkkohcaaGreatBar
import Derived.Test.YtffnpejdkkohcaaGreatBas
import Derived.Test.YtffnpejdkkohcaaGreatBat
import Derived.Test.YtffnpejdkkohcaaGreatBau
import Derived.Test.YtffnpejdkkohcaaGreatBav
import Derived.Test.YtffnpejdkkohcaaGreatBaw
import Derived.Test.YtffnpejdkkohcaaGreatBbc
import Derived.Test.YtffnpejdkkohcaaGreatBax
import Derived.Test.YtffnpejdkkohcaaGreatBay
import Derived.Test.YtffnpejdkkohcaaGreatBba
import Derived.Test.YtffnpejdkkohcaaGreatBbb
import Derived.Test.YtffnpejdkkohcaaGreatBai
import Derived.Test.YtffnpejdkkohcaaGreatBbd
import Derived.Test.YtffnpejdkkohcaaGreatBbe
import Derived.Test.YtffnpejdkkohcaaGreatBbf
import Derived.Test.YtffnpejdkkohcaaGreatBbg
import Derived.Test.YtffnpejdkkohcaaGreatBbh
import Derived.Test.YtffnpejdkkohcaaGreatBbi
import Derived.Test.YtffnpejdkkohcaaGreatBbj
import Derived.Test.YtffnpejdkkohcaaGreatBbk
import Derived.Test.YtffnpejdkkohcaaGreatBbl
import Derived.Test.YtffnpejdkkohcaaGreatBbm
set_option linter.unusedVariables false
set_option linter.unusedSimpArgs false
namespace Go.Sl
open Go.ChangeShapes Go.WideShapes Go.ChangeAt Go.RowKit Go.Deep
section
variable {H:Type} {enc:TypeId×Value→H} {P:Program} {W:World} {base:Nat} {ds:List (DataW H)} {ps:List MemPlace}
variable {args:Array Value} {t0 t1 t2 t3:TypeId}
theorem args2 (hA:DataW.TrodAll enc P W 0 (fun _=>true) true [t0,t1] args.toList ds ps):∃v0 v1 d0 d1,args=#[v0,v1]∧ds= [d0,d1]:=by
 obtain⟨l⟩:=args
 obtain⟨h1,h2⟩:=Fu hA
 match l,ds,h1,h2 with
 | [v0,v1],[d0,d1],_,_=>exact⟨v0,v1,d0,d1,rfl,rfl⟩
variable {r:Reach} {b0 n:Nat} {t:TypeId} {v:Value}
end
section
variable {P:Program} {W:World} {n:Nat} {t:TypeId} {cs:List Value}
end
end Go.Sl
