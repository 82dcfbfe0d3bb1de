/-
 Sizes of the program's data.
-/
import Derived.Test.YtmhnaidnoljllaaGreatN8g
set_option linter.all false
namespace Go.D
end Go.D
namespace Go.D
end Go.D
namespace Go.D
noncomputable def Jc(a0:List UInt8)(a1:Int):=
 let x1:Int:=gA .i64 3 (sC .i64 (a0.length:Int) 12)
 cond (decide (x1>a1))
 (some a1)
 (some x1)
noncomputable def Hy(a0:List UInt8):=
 Option.bind (Jk a0) λr1=>
 Option.bind (Jc a0 30) λr2=>
 Option.bind (Jb r1 (gA .i64 10 r2)) λr3=>
 some r3.1
end Go.D
namespace Go.D
end Go.D
namespace Go.D
def zux{n:Nat}(h:n≤1048576):0≤sC .i64 (n:Int) 12∧sC .i64 (n:Int) 12≤1048576:=by
 unfold sC;rw[Int.tdiv_eq_ediv_of_nonneg (by omega),IB (by omega) (by omega)];omega
end Go.D
namespace Go.D
def zol{a0 a1}(ha:a0.length≤1048576)(hb:0≤a1):Ok (Jc a0 a1) λr=>0≤r∧r≤a1:=by
 unfold Jc;refine have hq:=zux ha;
 have hi:=DA (a:=3) (b:=sC .i64 (a0.length:Int) 12) ?_ ?_;
 .c (λh1=> .s ?_)
  λh1=> .s ?_
 all_goals (try simp only[NB]at *)<;>(try simp(disch:=omega) only[DA,SA]at *)<;>omega
end Go.D
