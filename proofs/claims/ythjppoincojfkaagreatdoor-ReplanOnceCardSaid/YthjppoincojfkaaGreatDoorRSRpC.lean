import Derived.Test.YthjppoincojfkaaGreatDoorRSSnC
set_option linter.all false
namespace Go.Proofs.YthjppoincojfkaaGreatDoor
open Go Go.Abs
def ayd(g:Pg)(F:Int):Prop:=∀e∈g.ev,∀x,F<=x->e.st<=x->x<e.st+e.fr->okI g.p e.it 0 x
def aye(g:Pg)(F:Int):Prop:=∀e∈g.ev,∀a∈e.al,∀x,F<=x->e.st<=x->x<e.st+e.fr->Q0 g.p a.2 a.1 x
structure azm (g:Pg) (F:Int):Prop where
 it:ayf g
 re:atJ g F
 ne:ayd g F
 al:aye g F
def iH(g:Pg)(o:Od)(F:Int):Int:=if o.ki≠5/\nY g o=true then o.fr else F
