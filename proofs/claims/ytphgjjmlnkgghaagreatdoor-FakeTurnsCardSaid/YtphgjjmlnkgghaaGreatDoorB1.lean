/- Part 1 of what all laws of layer 8 need: a logic of programs that start goroutines, and what the functions yield. -/
import Derived.Conc.Beside
import Derived.Conc.CrowdBase
import Derived.Conc.CrowdComm
import Derived.Conc.Know
import Derived.Conc.Own
import Derived.Laws.BitsAllLaws
import Derived.Laws.BitsLemmas
import Derived.Laws.Closers25b
import Derived.Orders
import Derived.Test.YtphgjjmlnkgghaaGreatDoorProg
set_option linter.unusedVariables false
set_option linter.unusedSimpArgs false
set_option maxRecDepth 100000
namespace Go.Proofs.YtphgjjmlnkgghaaGreatDoor
section
open Go
abbrev o1:=true
abbrev o0:=false
abbrev iV(n:Int):Value:=.int .i64 n
abbrev z0:Value:=.int .i64 0
abbrev nS:Value:=.slice none 0 0
abbrev zZ0:List Bool:=[o1,o1,o1,o1,o1,o1,o1,o1,o1,o1,o1,o0]
abbrev zZ1:List Bool:=[o1,o1,o1,o1,o1,o1,o1,o1,o1,o1,o1,o1]
abbrev zZ2:List Bool:=[o1,o1,o1,o1,o1,o1,o1,o0,o0,o0,o0]
abbrev zZ3:List Bool:=[o1,o1,o1,o1,o1,o1,o1,o1,o0,o0,o0]
abbrev zZ4:List Bool:=[o1,o1,o1,o1,o1,o1,o1,o1,o1,o0,o0]
abbrev zZ5:List Bool:=[o1,o1,o1,o1,o1,o1,o1,o1,o1,o1,o0]
abbrev zZ6:List Bool:=[o1,o1,o1,o1,o1,o1,o1,o1,o1,o1,o1]
abbrev zZ7:List Bool:=[o1,o1,o1,o1,o1,o1,o0,o0,o0]
abbrev zZ8:List Bool:=[o1,o1,o1,o1,o1,o1,o1,o0,o0]
abbrev zZ9:List Bool:=[o1,o1,o1,o1,o1,o1,o1,o1,o0]
abbrev Ajy:List Bool:=[o1,o1,o1,o1,o1,o1,o1,o1,o1]
abbrev Ajz:List Bool:=[o1,o0,o0,o0,o0,o0,o0,o0,o0,o0]
abbrev Aka:List Bool:=[o1,o1,o0,o0,o0,o0,o0,o0,o0,o0]
abbrev Akb:List Bool:=[o1,o1,o1,o0,o0,o0,o0,o0,o0,o0]
abbrev Amg:List Bool:=[o1,o1,o1,o1,o1,o1,o1,o1,o0,o0]
abbrev Anr:List Bool:=[o1,o1,o1,o1,o1,o1,o1,o1,o1,o0]
abbrev Ans:List Bool:=[o1,o1,o1,o1,o1,o1,o1,o1,o1,o1]
abbrev Ant:List Bool:=[o1,o1,o1,o1,o1,o1,o1,o1,o0,o0,o0,o0,o0,o0,o0,o0]
abbrev Anu:List Bool:=[o1,o1,o1,o1,o1,o1,o1,o1,o1,o0,o0,o0,o0,o0,o0,o0]
abbrev Anv:List Bool:=[o1,o1,o1,o1,o1,o1,o1,o1,o1,o1,o0,o0,o0,o0,o0,o0]
abbrev Anw:List Bool:=[o1,o1,o1,o1,o1,o1,o1,o1,o1,o1,o1,o1,o1,o0,o0,o0]
abbrev Anx:List Bool:=[o1,o1,o1,o1,o1,o1,o1,o1,o1,o1,o1,o1,o1,o1,o0,o0]
abbrev Anz:List Bool:=[o1,o1,o1,o1,o1,o1,o1,o1,o1,o1,o1,o1,o1,o1,o1,o0]
abbrev Aoa:List Bool:=[o1,o1,o1,o1,o1,o1,o1,o1,o1,o1,o1,o1,o1,o1,o1,o1]
abbrev Aob:List Bool:=[o1,o0,o0,o0,o0,o0,o0,o0,o0,o0,o0,o0,o0,o0,o0,o0,o0,o0,o0,o0,o0,o0,o0,o0,o0,o0,o0,o0,o0,o0,o0,o0,o0,o0,o0,o0,o0,o0,o0]
abbrev Aoc:List Bool:=[o1,o1,o0,o0,o0,o0,o0,o0,o0,o0,o0,o0,o0,o0,o0,o0,o0,o0,o0,o0,o0,o0,o0,o0,o0,o0,o0,o0,o0,o0,o0,o0,o0,o0,o0,o0,o0,o0,o0]
abbrev Aod:List Bool:=[o1,o1,o1,o0,o0,o0,o0,o0,o0,o0,o0,o0,o0,o0,o0,o0,o0,o0,o0,o0,o0,o0,o0,o0,o0,o0,o0,o0,o0,o0,o0,o0,o0,o0,o0,o0,o0,o0,o0]
abbrev Aoe:List Bool:=[o1,o1,o1,o1,o0,o0,o0,o0,o0,o0,o0,o0,o0,o0,o0,o0,o0,o0,o0,o0,o0,o0,o0,o0,o0,o0,o0,o0,o0,o0,o0,o0,o0,o0,o0,o0,o0,o0,o0]
abbrev Aof:List Bool:=[o1,o1,o1,o1,o1,o0,o0,o0,o0,o0,o0,o0,o0,o0,o0,o0,o0,o0,o0,o0,o0,o0,o0,o0,o0,o0,o0,o0,o0,o0,o0,o0,o0,o0,o0,o0,o0,o0,o0]
abbrev Aog:List Bool:=[o1,o1,o1,o1,o1,o1,o0,o0,o0,o0,o0,o0,o0,o0,o0,o0,o0,o0,o0,o0,o0,o0,o0,o0,o0,o0,o0,o0,o0,o0,o0,o0,o0,o0,o0,o0,o0,o0,o0]
abbrev Aoh:List Bool:=[o1,o1,o1,o1,o1,o1,o1,o0,o0,o0,o0,o0,o0,o0,o0,o0,o0,o0,o0,o0,o0,o0,o0,o0,o0,o0,o0,o0,o0,o0,o0,o0,o0,o0,o0,o0,o0,o0,o0]
abbrev Aoi:List Bool:=[o1,o1,o1,o1,o1,o1,o1,o1,o0,o0,o0,o0,o0,o0,o0,o0,o0,o0,o0,o0,o0,o0,o0,o0,o0,o0,o0,o0,o0,o0,o0,o0,o0,o0,o0,o0,o0,o0,o0]
abbrev Aoj:List Bool:=[o1,o1,o1,o1,o1,o1,o1,o1,o1,o0,o0,o0,o0,o0,o0,o0,o0,o0,o0,o0,o0,o0,o0,o0,o0,o0,o0,o0,o0,o0,o0,o0,o0,o0,o0,o0,o0,o0,o0]
abbrev Aok:List Bool:=[o1,o1,o1,o1,o1,o1,o1,o1,o1,o1,o0,o0,o0,o0,o0,o0,o0,o0,o0,o0,o0,o0,o0,o0,o0,o0,o0,o0,o0,o0,o0,o0,o0,o0,o0,o0,o0,o0,o0]
abbrev Aol:List Bool:=[o1,o1,o1,o1,o1,o1,o1,o1,o1,o1,o1,o0,o0,o0,o0,o0,o0,o0,o0,o0,o0,o0,o0,o0,o0,o0,o0,o0,o0,o0,o0,o0,o0,o0,o0,o0,o0,o0,o0]
abbrev Aom:List Bool:=[o1,o1,o1,o1,o1,o1,o1,o1,o1,o1,o1,o1,o0,o0,o0,o0,o0,o0,o0,o0,o0,o0,o0,o0,o0,o0,o0,o0,o0,o0,o0,o0,o0,o0,o0,o0,o0,o0,o0]
abbrev Aon:List Bool:=[o1,o1,o1,o1,o1,o1,o1,o1,o1,o1,o1,o1,o1,o0,o0,o0,o0,o0,o0,o0,o0,o0,o0,o0,o0,o0,o0,o0,o0,o0,o0,o0,o0,o0,o0,o0,o0,o0,o0]
abbrev Aqg:List Bool:=[o1,o1,o1,o1,o1,o1,o1,o1,o1,o1,o1,o1,o1,o1,o0,o0,o0,o0,o0,o0,o0,o0,o0,o0,o0,o0,o0,o0,o0,o0,o0,o0,o0,o0,o0,o0,o0,o0,o0]
abbrev Aqh:List Bool:=[o1,o1,o1,o1,o1,o1,o1,o1,o1,o1,o1,o1,o1,o1,o1,o0,o0,o0,o0,o0,o0,o0,o0,o0,o0,o0,o0,o0,o0,o0,o0,o0,o0,o0,o0,o0,o0,o0,o0]
abbrev Aqi:List Bool:=[o1,o1,o1,o1,o1,o1,o1,o1,o1,o1,o1,o1,o1,o1,o1,o1,o0,o0,o0,o0,o0,o0,o0,o0,o0,o0,o0,o0,o0,o0,o0,o0,o0,o0,o0,o0,o0,o0,o0]
abbrev Aqj:List Bool:=[o1,o1,o1,o1,o1,o1,o1,o1,o1,o1,o1,o1,o1,o1,o1,o1,o1,o0,o0,o0,o0,o0,o0,o0,o0,o0,o0,o0,o0,o0,o0,o0,o0,o0,o0,o0,o0,o0,o0]
abbrev Aqk:List Bool:=[o1,o1,o1,o1,o1,o1,o1,o1,o1,o1,o1,o1,o1,o1,o1,o1,o1,o1,o0,o0,o0,o0,o0,o0,o0,o0,o0,o0,o0,o0,o0,o0,o0,o0,o0,o0,o0,o0,o0]
abbrev Aql:List Bool:=[o1,o1,o1,o1,o1,o1,o1,o1,o1,o1,o1,o1,o1,o1,o1,o1,o1,o1,o1,o0,o0,o0,o0,o0,o0,o0,o0,o0,o0,o0,o0,o0,o0,o0,o0,o0,o0,o0,o0]
abbrev Aqm:List Bool:=[o1,o1,o1,o1,o1,o1,o1,o1,o1,o1,o1,o1,o1,o1,o1,o1,o1,o1,o1,o1,o0,o0,o0,o0,o0,o0,o0,o0,o0,o0,o0,o0,o0,o0,o0,o0,o0,o0,o0]
abbrev Aqn:List Bool:=[o1,o1,o1,o1,o1,o1,o1,o1,o1,o1,o1,o1,o1,o1,o1,o1,o1,o1,o1,o1,o1,o0,o0,o0,o0,o0,o0,o0,o0,o0,o0,o0,o0,o0,o0,o0,o0,o0,o0]
abbrev Aqo:List Bool:=[o1,o1,o1,o1,o1,o1,o1,o1,o1,o1,o1,o1,o1,o1,o1,o1,o1,o1,o1,o1,o1,o1,o0,o0,o0,o0,o0,o0,o0,o0,o0,o0,o0,o0,o0,o0,o0,o0,o0]
abbrev Aqp:List Bool:=[o1,o1,o1,o1,o1,o1,o1,o1,o1,o1,o1,o1,o1,o1,o1,o1,o1,o1,o1,o1,o1,o1,o1,o0,o0,o0,o0,o0,o0,o0,o0,o0,o0,o0,o0,o0,o0,o0,o0]
abbrev Aqq:List Bool:=[o1,o1,o1,o1,o1,o1,o1,o1,o1,o1,o1,o1,o1,o1,o1,o1,o1,o1,o1,o1,o1,o1,o1,o1,o0,o0,o0,o0,o0,o0,o0,o0,o0,o0,o0,o0,o0,o0,o0]
abbrev Aqr:List Bool:=[o1,o1,o1,o1,o1,o1,o1,o1,o1,o1,o1,o1,o1,o1,o1,o1,o1,o1,o1,o1,o1,o1,o1,o1,o1,o0,o0,o0,o0,o0,o0,o0,o0,o0,o0,o0,o0,o0,o0]
abbrev Aqs:List Bool:=[o1,o1,o1,o1,o1,o1,o1,o1,o1,o1,o1,o1,o1,o1,o1,o1,o1,o1,o1,o1,o1,o1,o1,o1,o1,o1,o0,o0,o0,o0,o0,o0,o0,o0,o0,o0,o0,o0,o0]
abbrev Aqt:List Bool:=[o1,o1,o1,o1,o1,o1,o1,o1,o1,o1,o1,o1,o1,o1,o1,o1,o1,o1,o1,o1,o1,o1,o1,o1,o1,o1,o1,o0,o0,o0,o0,o0,o0,o0,o0,o0,o0,o0,o0]
abbrev Aqu:List Bool:=[o1,o1,o1,o1,o1,o1,o1,o1,o1,o1,o1,o1,o1,o1,o1,o1,o1,o1,o1,o1,o1,o1,o1,o1,o1,o1,o1,o1,o0,o0,o0,o0,o0,o0,o0,o0,o0,o0,o0]
abbrev Aqv:List Bool:=[o1,o1,o1,o1,o1,o1,o1,o1,o1,o1,o1,o1,o1,o1,o1,o1,o1,o1,o1,o1,o1,o1,o1,o1,o1,o1,o1,o1,o1,o0,o0,o0,o0,o0,o0,o0,o0,o0,o0]
abbrev Aqw:List Bool:=[o1,o1,o1,o1,o1,o1,o1,o1,o1,o1,o1,o1,o1,o1,o1,o1,o1,o1,o1,o1,o1,o1,o1,o1,o1,o1,o1,o1,o1,o1,o0,o0,o0,o0,o0,o0,o0,o0,o0]
abbrev Aqx:List Bool:=[o1,o1,o1,o1,o1,o1,o1,o1,o1,o1,o1,o1,o1,o1,o1,o1,o1,o1,o1,o1,o1,o1,o1,o1,o1,o1,o1,o1,o1,o1,o1,o0,o0,o0,o0,o0,o0,o0,o0]
abbrev Aqy:List Bool:=[o1,o1,o1,o1,o1,o1,o1,o1,o1,o1,o1,o1,o1,o1,o1,o1,o1,o1,o1,o1,o1,o1,o1,o1,o1,o1,o1,o1,o1,o1,o1,o1,o0,o0,o0,o0,o0,o0,o0]
abbrev Aoo:List Bool:=[o1,o1,o1,o1,o1,o1,o1,o1,o1,o1,o1,o1,o1,o1,o1,o1,o1,o1,o1,o1,o1,o1,o1,o1,o1,o1,o1,o1,o1,o1,o1,o1,o1,o0,o0,o0,o0,o0,o0]
abbrev Aop:List Bool:=[o1,o1,o1,o1,o1,o1,o1,o1,o1,o1,o1,o1,o1,o1,o1,o1,o1,o1,o1,o1,o1,o1,o1,o1,o1,o1,o1,o1,o1,o1,o1,o1,o1,o1,o0,o0,o0,o0,o0]
abbrev Aqz:List Bool:=[o1,o1,o1,o1,o1,o1,o1,o1,o1,o1,o1,o1,o1,o1,o1,o1,o1,o1,o1,o1,o1,o1,o1,o1,o1,o1,o1,o1,o1,o1,o1,o1,o1,o1,o1,o0,o0,o0,o0]
abbrev Ara:List Bool:=[o1,o1,o1,o1,o1,o1,o1,o1,o1,o1,o1,o1,o1,o1,o1,o1,o1,o1,o1,o1,o1,o1,o1,o1,o1,o1,o1,o1,o1,o1,o1,o1,o1,o1,o1,o1,o0,o0,o0]
abbrev Arb:List Bool:=[o1,o1,o1,o1,o1,o1,o1,o1,o1,o1,o1,o1,o1,o1,o1,o1,o1,o1,o1,o1,o1,o1,o1,o1,o1,o1,o1,o1,o1,o1,o1,o1,o1,o1,o1,o1,o1,o0,o0]
abbrev Arc:List Bool:=[o1,o1,o1,o1,o1,o1,o1,o1,o1,o1,o1,o1,o1,o1,o1,o1,o1,o1,o1,o1,o1,o1,o1,o1,o1,o1,o1,o1,o1,o1,o1,o1,o1,o1,o1,o1,o1,o1,o0]
abbrev Ard:List Bool:=[o1,o1,o1,o1,o1,o1,o1,o1,o1,o1,o1,o1,o1,o1,o1,o1,o1,o1,o1,o1,o1,o1,o1,o1,o1,o1,o1,o1,o1,o1,o1,o1,o1,o1,o1,o1,o1,o1,o1]
abbrev Are:List Bool:=[o1,o1,o1,o1,o1,o1,o1,o1,o1,o1,o0,o0]
abbrev Arf:List Bool:=[o1,o1,o1,o1,o1,o1,o1,o0,o0,o0]
abbrev Arg:List Bool:=[o1,o1,o1,o1,o1,o1,o0,o0,o0,o0,o0]
abbrev Arh:List Bool:=[o1,o1,o1,o1,o0,o0,o0,o0,o0,o0,o0,o0,o0,o0,o0,o0]
abbrev Aoq:List Bool:=[o1,o1,o1,o1,o1,o0,o0,o0,o0,o0,o0,o0,o0,o0,o0,o0]
abbrev Aor:List Bool:=[o1,o1,o1,o1,o1,o0,o0,o0,o0]
abbrev Aos:List Bool:=[o1,o1,o1,o1,o1,o1,o0,o0,o0,o0,o0,o0,o0,o0,o0,o0]
abbrev Aot:List Bool:=[o1,o1,o1,o1,o1,o1,o1,o0,o0,o0,o0,o0,o0,o0,o0,o0]
abbrev Aou:List Bool:=[o1,o1,o1,o1,o1,o1,o1,o1,o1,o0,o0,o0]
abbrev Aov:List Bool:=[o1,o0,o0,o0,o0,o0,o0,o0,o0,o0,o0,o0,o0,o0,o0]
abbrev Aow:List Bool:=[o1,o1,o0,o0,o0,o0,o0,o0,o0,o0,o0,o0,o0,o0,o0]
abbrev Aox:List Bool:=[o1,o1,o1,o0,o0,o0,o0,o0,o0,o0,o0,o0,o0,o0,o0]
abbrev Aoy:List Bool:=[o1,o1,o1,o1,o0,o0,o0,o0,o0,o0,o0,o0,o0,o0,o0]
abbrev Aoz:List Bool:=[o1,o1,o1,o1,o1,o0,o0,o0,o0,o0,o0,o0,o0,o0,o0]
abbrev Apa:List Bool:=[o1,o1,o1,o1,o1,o1,o0,o0,o0,o0,o0,o0,o0,o0,o0]
abbrev Amh:List Bool:=[o1,o1,o1,o1,o1,o1,o1,o0,o0,o0,o0,o0,o0,o0,o0]
abbrev Ami:List Bool:=[o1,o1,o1,o1,o1,o1,o1,o1,o1,o1,o1,o1,o1,o0,o0]
abbrev Apb:List Bool:=[o1,o1,o1,o1,o1,o1,o1,o1,o1,o1,o1,o1,o1,o1,o0]
abbrev Apc:List Bool:=[o1,o1,o1,o1,o1,o1,o1,o1,o1,o1,o1,o1,o1,o1,o1]
abbrev Apd:List Bool:=[o1,o0,o0,o0,o0,o0,o0,o0,o0,o0,o0,o0,o0,o0,o0,o0,o0,o0,o0]
abbrev Ape:List Bool:=[o1,o1,o0,o0,o0,o0,o0,o0,o0,o0,o0,o0,o0,o0,o0,o0,o0,o0,o0]
abbrev Apf:List Bool:=[o1,o1,o1,o0,o0,o0,o0,o0,o0,o0,o0,o0,o0,o0,o0,o0,o0,o0,o0]
abbrev Bko:List Bool:=[o1,o1,o1,o1,o0,o0,o0,o0,o0,o0,o0,o0,o0,o0,o0,o0,o0,o0,o0]
abbrev Bkp:List Bool:=[o1,o1,o1,o1,o1,o0,o0,o0,o0,o0,o0,o0,o0,o0,o0,o0,o0,o0,o0]
abbrev Bkq:List Bool:=[o1,o1,o1,o1,o1,o1,o0,o0,o0,o0,o0,o0,o0,o0,o0,o0,o0,o0,o0]
abbrev Bkr:List Bool:=[o1,o1,o1,o1,o1,o1,o1,o0,o0,o0,o0,o0,o0,o0,o0,o0,o0,o0,o0]
abbrev Bks:List Bool:=[o1,o1,o1,o1,o1,o1,o1,o1,o0,o0,o0,o0,o0,o0,o0,o0,o0,o0,o0]
abbrev Bkt:List Bool:=[o1,o1,o1,o1,o1,o1,o1,o1,o1,o0,o0,o0,o0,o0,o0,o0,o0,o0,o0]
abbrev Bku:List Bool:=[o1,o1,o1,o1,o1,o1,o1,o1,o1,o1,o0,o0,o0,o0,o0,o0,o0,o0,o0]
abbrev Bkv:List Bool:=[o1,o1,o1,o1,o1,o1,o1,o1,o1,o1,o1,o0,o0,o0,o0,o0,o0,o0,o0]
abbrev Bkw:List Bool:=[o1,o1,o1,o1,o1,o1,o1,o1,o1,o1,o1,o1,o0,o0,o0,o0,o0,o0,o0]
abbrev Bkx:List Bool:=[o1,o1,o1,o1,o1,o1,o1,o1,o1,o1,o1,o1,o1,o0,o0,o0,o0,o0,o0]
abbrev Bky:List Bool:=[o1,o1,o1,o1,o1,o1,o1,o1,o1,o1,o1,o1,o1,o1,o0,o0,o0,o0,o0]
abbrev Bkz:List Bool:=[o1,o1,o1,o1,o1,o1,o1,o1,o1,o1,o1,o1,o1,o1,o1,o0,o0,o0,o0]
abbrev Bla:List Bool:=[o1,o1,o1,o1,o1,o1,o1,o1,o1,o1,o1,o1,o1,o1,o1,o1,o0,o0,o0]
abbrev Blb:List Bool:=[o1,o1,o1,o1,o1,o1,o1,o1,o1,o1,o1,o1,o1,o1,o1,o1,o1,o0,o0]
abbrev Blc:List Bool:=[o1,o1,o1,o1,o1,o1,o1,o1,o1,o1,o1,o1,o1,o1,o1,o1,o1,o1,o0]
abbrev Bgd:List Bool:=[o1,o1,o1,o1,o1,o1,o1,o1,o1,o1,o1,o1,o1,o1,o1,o1,o1,o1,o1]
abbrev Bbf:List Bool:=[o1,o0,o0,o0,o0,o0,o0,o0,o0,o0,o0]
abbrev Bbg:List Bool:=[o1,o1,o0,o0,o0,o0,o0,o0,o0,o0,o0]
abbrev Bbh:List Bool:=[o1,o1,o1,o0,o0,o0,o0,o0,o0,o0,o0]
abbrev Bbi:List Bool:=[o1,o1,o1,o1,o0,o0,o0,o0,o0,o0,o0]
abbrev Bbj:List Bool:=[o1,o1,o1,o1,o1,o0,o0,o0,o0,o0,o0]
abbrev Azf:List Bool:=[o1,o0,o0,o0,o0,o0,o0,o0,o0]
abbrev Azg:List Bool:=[o1,o1,o0,o0,o0,o0,o0,o0,o0]
abbrev Azh:List Bool:=[o1,o1,o1,o0,o0,o0,o0,o0,o0]
abbrev Azi:List Bool:=[o1,o1,o1,o1,o0,o0,o0,o0,o0]
abbrev Bbk:List Bool:=[o1,o1,o1,o1,o0,o0,o0,o0,o0,o0]
abbrev Bbl:List Bool:=[o1,o1,o1,o1,o1,o0,o0,o0,o0,o0]
abbrev Bdk:List Bool:=[o1,o1,o1,o1,o1,o1,o1,o1,o0,o0,o0,o0]
abbrev Bge:List Bool:=[o1,o0,o0,o0,o0,o0,o0,o0,o0,o0,o0,o0,o0,o0,o0,o0]
abbrev Bgf:List Bool:=[o1,o1,o0,o0,o0,o0,o0,o0,o0,o0,o0,o0,o0,o0,o0,o0]
abbrev Bgg:List Bool:=[o1,o1,o1,o0,o0,o0,o0,o0,o0,o0,o0,o0,o0,o0,o0,o0]
abbrev Bgh:List Bool:=[o1,o1,o1,o1,o1,o1,o1,o1,o1,o1,o1,o0,o0,o0,o0,o0]
abbrev Bgi:List Bool:=[o1,o1,o1,o1,o1,o1,o1,o1,o1,o1,o1,o1,o0,o0,o0,o0]
abbrev Bil:List Bool:=[o1,o1,o1,o1,o1,o1,o1,o1,o1,o1,o1,o0,o0,o0,o0,o0,o0,o0,o0,o0,o0,o0,o0]
abbrev Bim:List Bool:=[o1,o1,o1,o1,o1,o1,o1,o1,o1,o1,o1,o1,o0,o0,o0,o0,o0,o0,o0,o0,o0,o0,o0]
abbrev Bin:List Bool:=[o1,o1,o1,o1,o1,o1,o1,o1,o1,o1,o1,o1,o1,o0,o0,o0,o0,o0,o0,o0,o0,o0,o0]
abbrev Bio:List Bool:=[o1,o1,o1,o1,o1,o1,o1,o1,o1,o1,o1,o1,o1,o1,o0,o0,o0,o0,o0,o0,o0,o0,o0]
abbrev Bip:List Bool:=[o1,o1,o1,o1,o1,o1,o1,o1,o1,o1,o1,o1,o1,o1,o1,o0,o0,o0,o0,o0,o0,o0,o0]
abbrev Biq:List Bool:=[o1,o1,o1,o1,o1,o1,o1,o1,o1,o1,o1,o1,o1,o1,o1,o1,o0,o0,o0,o0,o0,o0,o0]
abbrev Bir:List Bool:=[o1,o1,o1,o1,o1,o1,o1,o1,o1,o1,o1,o1,o1,o1,o1,o1,o1,o0,o0,o0,o0,o0,o0]
abbrev Bis:List Bool:=[o1,o1,o1,o1,o1,o1,o1,o1,o1,o1,o1,o1,o1,o1,o1,o1,o1,o1,o0,o0,o0,o0,o0]
abbrev Bit:List Bool:=[o1,o1,o1,o1,o1,o1,o1,o1,o1,o1,o1,o1,o1,o1,o1,o1,o1,o1,o1,o0,o0,o0,o0]
abbrev Biu:List Bool:=[o1,o1,o1,o1,o1,o1,o1,o1,o1,o1,o1,o1,o1,o1,o1,o1,o1,o1,o1,o1,o0,o0,o0]
abbrev Biv:List Bool:=[o1,o1,o1,o1,o1,o1,o1,o1,o1,o1,o1,o1,o1,o1,o1,o1,o1,o1,o1,o1,o1,o0,o0]
abbrev Biw:List Bool:=[o1,o1,o1,o1,o1,o1,o1,o1,o1,o1,o1,o1,o1,o1,o1,o1,o1,o1,o1,o1,o1,o1,o0]
abbrev Bix:List Bool:=[o1,o1,o1,o1,o1,o1,o1,o1,o1,o1,o1,o1,o1,o1,o1,o1,o1,o1,o1,o1,o1,o1,o1]
abbrev Bgj:List Bool:=[o1,o1,o1,o1,o1,o1,o1,o0,o1,o0,o0,o0,o0,o0,o0]
abbrev Bgk:List Bool:=[o1,o1,o1,o1,o1,o1,o1,o0,o1,o0,o1,o0,o0,o0,o0]
abbrev Bgl:List Bool:=[o1,o1,o1,o1,o1,o1,o1,o0,o1,o0,o1,o1,o0,o0,o0]
abbrev Bgm:List Bool:=[o1,o1,o1,o1,o1,o1,o1,o0,o1,o0,o1,o1,o1,o0,o0]
abbrev Bgn:List Bool:=[o1,o1,o1,o1,o1,o1,o1,o1,o1,o0,o1,o1,o1,o0,o0]
abbrev Bdl:List Bool:=[o1,o1,o1,o1,o1,o1,o0,o0,o0,o0]
abbrev Biy:List Bool:=[o1,o1,o1,o1,o1,o1,o1,o1,o1,o1,o1,o1,o1,o1,o1,o1,o0,o0,o0,o0]
abbrev Biz:List Bool:=[o1,o1,o1,o1,o1,o1,o1,o1,o1,o1,o1,o1,o1,o1,o1,o1,o1,o0,o0,o0]
abbrev Bja:List Bool:=[o1,o1,o1,o1,o1,o1,o1,o1,o1,o1,o1,o1,o1,o1,o1,o1,o1,o1,o0,o0]
abbrev Bjb:List Bool:=[o1,o1,o1,o1,o1,o1,o1,o1,o1,o1,o1,o1,o1,o1,o1,o1,o1,o1,o1,o0]
abbrev Bjc:List Bool:=[o1,o1,o1,o1,o1,o1,o1,o1,o1,o1,o1,o1,o1,o1,o1,o1,o1,o1,o1,o1]
abbrev Bgo:List Bool:=[o1,o0,o0,o0,o0,o0,o0,o0,o0,o0,o0,o0]
abbrev Bgp:List Bool:=[o1,o1,o0,o0,o0,o0,o0,o0,o0,o0,o0,o0]
abbrev Bgq:List Bool:=[o1,o1,o1,o0,o0,o0,o0,o0,o0,o0,o0,o0]
abbrev Bgr:List Bool:=[o1,o1,o1,o1,o0,o0,o0,o0,o0,o0,o0,o0]
abbrev Bgs:List Bool:=[o1,o1,o1,o1,o1,o0,o0,o0,o0,o0,o0,o0]
abbrev Bgt:List Bool:=[o1,o1,o1,o1,o1,o1,o0,o0,o0,o0,o0,o0]
abbrev Bgu:List Bool:=[o1,o1,o1,o1,o1,o1,o1,o0,o0,o0,o0,o0]
abbrev Bjd:List Bool:=[o1,o1,o1,o1,o0,o0,o0,o0,o0,o0,o0,o0,o0,o0,o0,o0,o0,o0]
abbrev Bje:List Bool:=[o1,o1,o1,o1,o1,o0,o0,o0,o0,o0,o0,o0,o0,o0,o0,o0,o0,o0]
abbrev Bjf:List Bool:=[o1,o1,o1,o1,o1,o1,o0,o0,o0,o0,o0,o0,o0,o0,o0,o0,o0,o0]
abbrev Bjg:List Bool:=[o1,o1,o1,o1,o1,o1,o1,o0,o0,o0,o0,o0,o0,o0,o0,o0,o0,o0]
abbrev Bjh:List Bool:=[o1,o1,o1,o1,o1,o1,o1,o1,o0,o0,o0,o0,o0,o0,o0,o0,o0,o0]
abbrev Bji:List Bool:=[o1,o1,o1,o1,o1,o1,o1,o1,o1,o0,o0,o0,o0,o0,o0,o0,o0,o0]
abbrev Bjj:List Bool:=[o1,o1,o1,o1,o1,o1,o1,o1,o1,o1,o0,o0,o0,o0,o0,o0,o0,o0]
abbrev Bjk:List Bool:=[o1,o1,o1,o1,o1,o1,o1,o1,o1,o1,o1,o0,o0,o0,o0,o0,o0,o0]
abbrev Bjl:List Bool:=[o1,o1,o1,o1,o1,o1,o1,o1,o1,o1,o1,o1,o0,o0,o0,o0,o0,o0]
abbrev Bjm:List Bool:=[o1,o1,o1,o1,o1,o1,o1,o1,o1,o1,o1,o1,o1,o0,o0,o0,o0,o0]
abbrev Bjn:List Bool:=[o1,o1,o1,o1,o1,o1,o1,o1,o1,o1,o1,o1,o1,o1,o0,o0,o0,o0]
abbrev Bjo:List Bool:=[o1,o1,o1,o1,o1,o1,o1,o1,o1,o1,o1,o1,o1,o1,o1,o0,o0,o0]
abbrev Bjp:List Bool:=[o1,o1,o1,o1,o1,o1,o1,o1,o1,o1,o1,o1,o1,o1,o1,o1,o0,o0]
abbrev Bjq:List Bool:=[o1,o1,o1,o1,o1,o1,o1,o1,o1,o1,o1,o1,o1,o1,o1,o1,o1,o0]
abbrev Bjr:List Bool:=[o1,o1,o1,o1,o1,o1,o1,o1,o1,o1,o1,o1,o1,o1,o1,o1,o1,o1]
abbrev Bjs:List Bool:=[o1,o0,o0,o0,o0,o0,o0,o0,o0,o0,o0,o0,o0,o0,o0,o0,o0]
abbrev Bjt:List Bool:=[o1,o1,o0,o0,o0,o0,o0,o0,o0,o0,o0,o0,o0,o0,o0,o0,o0]
abbrev Bju:List Bool:=[o1,o1,o1,o0,o0,o0,o0,o0,o0,o0,o0,o0,o0,o0,o0,o0,o0]
abbrev Bjv:List Bool:=[o1,o1,o1,o1,o0,o0,o0,o0,o0,o0,o0,o0,o0,o0,o0,o0,o0]
abbrev Bjw:List Bool:=[o1,o1,o1,o1,o1,o0,o0,o0,o0,o0,o0,o0,o0,o0,o0,o0,o0]
abbrev Bjx:List Bool:=[o1,o1,o1,o1,o1,o1,o1,o1,o1,o1,o1,o1,o1,o0,o0,o0,o0]
abbrev Bjy:List Bool:=[o1,o1,o1,o1,o1,o1,o1,o1,o1,o1,o1,o1,o1,o1,o0,o0,o0]
abbrev Bjz:List Bool:=[o1,o1,o1,o1,o1,o1,o1,o1,o1,o1,o1,o1,o1,o1,o1,o0,o0]
abbrev Bka:List Bool:=[o1,o1,o1,o1,o1,o1,o1,o1,o1,o1,o1,o1,o1,o1,o1,o1,o0]
abbrev Bkb:List Bool:=[o1,o1,o1,o1,o1,o1,o1,o1,o1,o1,o1,o1,o1,o1,o1,o1,o1]
abbrev Bkc:List Bool:=[o1,o1,o1,o1,o1,o1,o1,o1,o1,o1,o0,o1,o0,o0,o0,o0]
abbrev Bkd:List Bool:=[o1,o1,o1,o1,o1,o1,o1,o1,o1,o1,o0,o1,o1,o0,o0,o0]
abbrev Bgv:List Bool:=[o1,o1,o1,o0,o1,o0,o0,o0,o0,o0]
abbrev Bgw:List Bool:=[o1,o1,o1,o0,o1,o1,o0,o0,o0,o0]
abbrev Bdm:List Bool:=[o1,o1,o1,o1,o1,o0]
abbrev Bdn:List Bool:=[o1,o1,o1,o1,o1,o1]
abbrev Bgx:List Bool:=[o1,o0,o0,o0,o0,o0,o0]
abbrev Bgy:List Bool:=[o1,o1,o1,o1,o0,o0,o0]
abbrev Bgz:List Bool:=[o1,o1,o1,o1,o1,o0,o0]
abbrev Bha:List Bool:=[o1,o1,o1,o1,o1,o1,o0]
abbrev Bhb:List Bool:=[o1,o1,o1,o1,o1,o1,o1]
/-- What is held at an owned number: a block; a new channel without a buffer that nobody else knows; the receiving end of a channel that still brings these values and is then closed. -/
inductive Res where
 | obj (o:Obj)
 | chan
 | recv (vs:List Value)
abbrev Own:=List (Nat × Res)
abbrev Ro:=Nat→Option Obj
def keys (σ:Own):List Nat:=σ.map Prod.fst
def Res.fits (W:World) (b:Nat):Res→Prop
 | .obj o=>W.heap[b]? = some o∧o.isChan = false
 | .chan=>∃ s r tm,W.heap[b]? = some (.chan 0 #[] false s r tm)
 | .recv _=>∃ s r cl tm,W.heap[b]? = some (.chan 0 #[] cl s r tm)
structure Sat (ρ:Ro) (σ:Own) (W:World):Prop where
 ro:∀ b o,ρ b = some o→W.heap[b]? = some o∧o.isChan = false
 own:∀ p ∈ σ,p.2.fits W p.1
 nd:(keys σ).Nodup
 dj:∀ b ∈ keys σ,ρ b = none
/-- A block that may be read. -/
def Has (ρ:Ro) (σ:Own) (b:Nat) (o:Obj):Prop:=ρ b = some o∨(b,Res.obj o) ∈ σ
def Gy:Obj→Nat→Option Value
 | .cells c _ _,i=>c[i]?
 | _,_=>none
def Xk:Obj→Option (TypeId × Nat)
 | .cells c t _=>some (t,c.size)
 | _=>none
def Lv (o:Obj) (i:Nat):Bool :=
 match o with
 | .cells _ _ (lo,hi)=>lo ≤ i && i < hi
 | _=>false
def Sj:Obj→Bool
 | .cells ..=>true
 | _=>false
def single:Value→Bool
 | .agg _ | .tuple _=>false
 | _=>true
/-- What an operation's computation does to the owned blocks; a new block's number is any. -/
def wpS {α:Type} (P:Program) (ρ:Ro):Sem α→Own→(α→Own→Prop)→Prop
 | .pure a,σ,Q=>Q a σ
 | .load m a k,σ,Q=>m = .plain∧a.spot = none∧∃ o v,Has ρ σ a.block o∧Gy o a.off = some v∧wpS P ρ (k v) σ Q
 | .store m a v k,σ,Q=>m = .plain∧a.spot = none∧single v = true∧∃ i c t fz,σ[i]? = some (a.block,.obj (.cells c t fz))∧a.off < c.size ∧
   Lv (.cells c t fz) a.off = false∧wpS P ρ k (σ.set i (a.block,.obj (.cells (c.setIfInBounds a.off v) t fz))) Q
 | .new o k,σ,Q=>(o.isChan = false∧∀ r,wpS P ρ (k r) ((r,.obj o) :: σ) Q)∨(o = .chan 0 #[] false 0 0 false∧∀ r,wpS P ρ (k r) ((r,.chan) :: σ) Q)
 | .shape r k,σ,Q=>∃ o,Has ρ σ r o∧wpS P ρ (k (Xk o)) σ Q
 | .freeze a n k,σ,Q=>(n = 0∧wpS P ρ k σ Q)∨(n ≠ 0∧∃ i c t lo hi,σ[i]? = some (a.block,.obj (.cells c t (lo,hi))) ∧
   wpS P ρ k (σ.set i (a.block,.obj (.cells c t (if lo == hi then (a.off,a.off + n) else (min lo a.off,max hi (a.off + n)))))) Q)
 | .frozen a k,σ,Q=>∃ o,Has ρ σ a.block o∧wpS P ρ (k (Lv o a.off)) σ Q
 | .getObj r k,σ,Q=>∃ o,Has ρ σ r o∧Sj o = false∧wpS P ρ (k o) σ Q
 | .setObj r o k,σ,Q=>o.isChan = false∧∃ i o₀,σ[i]? = some (r,.obj o₀)∧Sj o₀ = false∧wpS P ρ k (σ.set i (r,.obj o)) Q
 | .choose q k,σ,Q=>if q.forced then wpS P ρ (k 0) σ Q else ∀ t,wpS P ρ (k (q.cut t)) σ Q
 | .sys _ _,_,_=>False
 | .program k,σ,Q=>wpS P ρ (k P) σ Q
 | .mark m k,σ,Q=>Conc.Neutral m∧wpS P ρ k σ Q
 | .halt _,_,_=>False
/-- What a step of a goroutine does to the world. -/
structure Trans (ρ:Ro) (σ:Own) (W:World) (σ':Own) (W':World):Prop where
 sat:Sat ρ σ' W'
 size:W.heap.size ≤ W'.heap.size
 keys:∀ b ∈ keys σ',b ∈ keys σ∨(W.heap.size ≤ b∧b < W'.heap.size)
 kept:∀ b ∈ Go.Proofs.YtphgjjmlnkgghaaGreatDoor.keys σ,b ∈ Go.Proofs.YtphgjjmlnkgghaaGreatDoor.keys σ'
 fresh:∀ b,W.heap.size ≤ b→b < W'.heap.size→b ∈ Go.Proofs.YtphgjjmlnkgghaaGreatDoor.keys σ'
 frame:∀ b,b < W.heap.size→(∀ o,(b,Res.obj o) ∉ σ)→W'.heap[b]? = W.heap[b]?
 ends:∀ c vs,(c,Res.recv vs) ∈ σ'↔(c,Res.recv vs) ∈ σ
 chans:∀ c,(c,Res.chan) ∈ σ'→(c,Res.chan) ∈ σ∨W.heap.size ≤ c
 chansKept:∀ c,(c,Res.chan) ∈ σ→(c,Res.chan) ∈ σ'
 tape:W'.tape = W.tape
 os:W'.os = W.os
 output:W'.output = W.output
/-- What a step of a goroutine may list. -/
def EvOk (ρ:Ro) (σ:Own) (e:Event):Prop :=
 (∃ a,e.loc = .cell a∧e.sync = false∧((∃ o,(a.block,Res.obj o) ∈ σ)∨(e.write = false∧(ρ a.block).isSome = true))) ∨
 (∃ r,e.loc = .obj r∧e.sync = false∧((∃ o,(r,Res.obj o) ∈ σ)∨(e.write = false∧(ρ r).isSome = true))) ∨
 (∃ m,e.loc = .mark m∧Conc.Neutral m)
theorem Du {σ:Own} {b:Nat} {r:Res} (h:(b,r) ∈ σ):b ∈ keys σ:=List.mem_map.2 ⟨_,h,rfl⟩
theorem Sat.has {ρ:Ro} {σ:Own} {W:World} (h:Sat ρ σ W) {b:Nat} {o:Obj} (hb:Has ρ σ b o):W.heap[b]? = some o∧o.isChan = false:=by
 rcases hb with hb | hb
 ·exact h.ro _ _ hb
 ·exact h.own _ hb
theorem Trans.refl {ρ:Ro} {σ:Own} {W:World} (h:Sat ρ σ W):Trans ρ σ W σ W :=
 ⟨h,Nat.le_refl _,fun _ hb=>.inl hb,fun _ hb=>hb,fun _ h1 h2=>absurd h2 (by omega),fun _ _ _=>rfl,fun _ _=>Iff.rfl,fun _ h=>.inl h,fun _ h=>h,rfl,rfl,rfl⟩
theorem Dq {W:World} {b:Nat} {o:Obj} (h:W.heap[b]? = some o):b < W.heap.size:=by
 rcases Nat.lt_or_ge b W.heap.size with h' | h'
 ·exact h'
 ·rw [Array.getElem?_eq_none h'] at h; cases h
theorem Res.fits_lt {W:World} {b:Nat} {r:Res} (h:r.fits W b):b < W.heap.size:=by
 cases r with
 | obj o=>exact Dq h.1
 | chan=>obtain ⟨s,r,tm,h⟩:=h; exact Dq h
 | recv vs=>obtain ⟨s,r,cl,tm,h⟩:=h; exact Dq h
theorem Sat.key_lt {ρ:Ro} {σ:Own} {W:World} (h:Sat ρ σ W) {b:Nat} (hb:b ∈ Go.Proofs.YtphgjjmlnkgghaaGreatDoor.keys σ):b < W.heap.size:=by
 obtain ⟨p,hp,rfl⟩:=List.mem_map.1 hb
 exact Res.fits_lt (h.own p hp)
/-- One owned number holds one thing. -/
theorem Sat.uniq {ρ:Ro} {σ:Own} {W:World} (h:Sat ρ σ W) {b:Nat} {r r':Res} (h1:(b,r) ∈ σ) (h2:(b,r') ∈ σ):r = r':=by
 have nd:=h.nd
 clear h
 induction σ with
 | nil=>cases h1
 | cons p σ ih =>
  simp only [Go.Proofs.YtphgjjmlnkgghaaGreatDoor.keys,List.map_cons,List.nodup_cons] at nd
  rcases List.mem_cons.1 h1 with rfl | h1' <;> rcases List.mem_cons.1 h2 with h2' | h2'
  ·injection h2' with _ e; exact e.symm
  ·exact absurd (Du h2') nd.1
  ·subst h2'; exact absurd (Du h1') nd.1
  ·exact ih h1' h2' nd.2
theorem EvOk.mono {ρ:Ro} {σ σ':Own} {e:Event} (h:EvOk ρ σ e) (hk:∀ b o,(b,Res.obj o) ∈ σ→∃ o',(b,Res.obj o') ∈ σ'):EvOk ρ σ' e:=by
 rcases h with ⟨a,h1,h2,h3⟩ | ⟨r,h1,h2,h3⟩ | h
 ·exact .inl ⟨a,h1,h2,h3.imp (fun ⟨o,ho⟩=>hk _ _ ho) id⟩
 ·exact .inr (.inl ⟨r,h1,h2,h3.imp (fun ⟨o,ho⟩=>hk _ _ ho) id⟩)
 ·exact .inr (.inr h)
/-- A step's owned blocks stay owned blocks. -/
theorem Trans.objs {ρ:Ro} {σ σ':Own} {W W':World} (h0:Sat ρ σ W) (h:Trans ρ σ W σ' W') {b:Nat} {o:Obj} (hb:(b,Res.obj o) ∈ σ):∃ o',(b,Res.obj o') ∈ σ':=by
 obtain ⟨⟨b',r⟩,hr,e⟩:=List.mem_map.1 (h.kept b (Du hb))
 simp only at e; subst e
 cases r with
 | obj o'=>exact ⟨o',hr⟩
 | chan =>
  rcases h.chans _ hr with h1 | h1
  ·exact absurd (h0.uniq hb h1) (by simp)
  ·exact absurd (h0.key_lt (Du hb)) (by omega)
 | recv vs=>exact absurd (h0.uniq hb ((h.ends _ _).1 hr)) (by simp)
/-- Behind a step what is a block of one's own was so before it,or is new. -/
theorem Trans.objs_back {ρ:Ro} {σ σ':Own} {W W':World} (h0:Sat ρ σ W) (h:Trans ρ σ W σ' W') {b:Nat} {o:Obj} (hb:(b,Res.obj o) ∈ σ'):(∃ o',(b,Res.obj o') ∈ σ)∨W.heap.size ≤ b:=by
 rcases h.keys b (Du hb) with h1 | ⟨h1,_⟩
 ·obtain ⟨⟨b',r⟩,hr,e⟩:=List.mem_map.1 h1
  simp only at e; subst e
  cases r with
  | obj o'=>exact .inl ⟨o',hr⟩
  | chan=>exact absurd (h.sat.uniq hb (h.chansKept _ hr)) (by simp)
  | recv vs=>exact absurd (h.sat.uniq hb ((h.ends _ _).2 hr)) (by simp)
 ·exact .inr h1
theorem Trans.trans {ρ:Ro} {σ σ' σ'':Own} {W W' W'':World} (h0:Sat ρ σ W) (h:Trans ρ σ W σ' W') (h':Trans ρ σ' W' σ'' W''):Trans ρ σ W σ'' W'':=by
 refine ⟨h'.sat,Nat.le_trans h.size h'.size,fun b hb=>?_,fun b hb=>h'.kept _ (h.kept _ hb),fun b h1 h2=>?_,fun b hb hn=>?_,fun c vs=>(h'.ends c vs).trans (h.ends c vs),fun c hc=>?_,fun c hc=>h'.chansKept c (h.chansKept c hc),h'.tape.trans h.tape,h'.os.trans h.os,h'.output.trans h.output⟩
 ·rcases h'.keys b hb with h1 | ⟨h1,h2⟩
  ·rcases h.keys b h1 with h3 | ⟨h3,h4⟩
   ·exact .inl h3
   ·exact .inr ⟨h3,Nat.lt_of_lt_of_le h4 h'.size⟩
  ·exact .inr ⟨Nat.le_trans h.size h1,h2⟩
 ·rcases Nat.lt_or_ge b W'.heap.size with h3 | h3
  ·exact h'.kept _ (h.fresh b h1 h3)
  ·exact h'.fresh b h3 h2
 ·rw [h'.frame b (Nat.lt_of_lt_of_le hb h.size) ?_,h.frame b hb hn]
  intro o ho
  rcases h.objs_back h0 ho with ⟨o',h1⟩ | h1
  ·exact hn _ h1
  ·omega
 ·rcases h'.chans c hc with h1 | h1
  ·exact h.chans c h1
  ·exact .inr (Nat.le_trans h.size h1)
theorem Tt {σ:Own} {i b:Nat} {r r':Res} (h:σ[i]? = some (b,r)):keys (σ.set i (b,r')) = keys σ:=by
 unfold keys
 rw [List.map_set]
 apply List.ext_getElem?
 intro j
 rw [List.getElem?_set]
 split
 ·rename_i e
  subst e
  split
  ·rw [List.getElem?_map,h]; rfl
  ·rename_i hlt
   rw [List.getElem?_eq_none (by simpa using hlt)]
 ·rfl
theorem Gq {σ:Own} {i b:Nat} {r r':Res} (h:σ[i]? = some (b,r)) (nd:(keys σ).Nodup) {p:Nat × Res} (hp:p ∈ σ.set i (b,r')):p = (b,r')∨(p ∈ σ∧p.1 ≠ b):=by
 obtain ⟨j,hj,e⟩:=List.getElem_of_mem hp
 rw [List.getElem_set] at e
 split at e
 ·exact .inl e.symm
 ·rename_i hne
  rw [List.length_set] at hj
  refine .inr ⟨e ▸ List.getElem_mem _,fun hb=>?_⟩
  have hi:i < σ.length:=by
   rcases Nat.lt_or_ge i σ.length with h' | h'
   ·exact h'
   ·rw [List.getElem?_eq_none h'] at h; cases h
  have e1:(keys σ)[i]'(by simpa [keys] using hi) = b:=by
   have:=List.getElem?_eq_some_iff.1 h
   simp [keys,this.2]
  have e2:(keys σ)[j]'(by simpa [keys] using hj) = b:=by simp [keys,e,hb]
  exact hne ((List.getElem_inj nd).1 (e1.trans e2.symm))
theorem On {σ:Own} {i b c:Nat} {o:Obj} {r r':Res} (hi:σ[i]? = some (b,.obj o)) (hc:(c,r) ∈ σ) (hr:∀ o,r ≠ .obj o):(c,r) ∈ σ.set i (b,r'):=by
 rcases List.getElem_of_mem hc with ⟨j,hj,e⟩
 refine List.mem_of_getElem? (i:=j) ?_
 rw [List.getElem?_set]
 split
 ·rename_i e2
  subst e2
  rw [List.getElem?_eq_getElem hj,e] at hi
  cases hi
  exact absurd rfl (hr o)
 ·rw [List.getElem?_eq_getElem hj,e]
theorem Sat.setObj {ρ:Ro} {σ:Own} {W:World} (h:Sat ρ σ W) {i b:Nat} {o o':Obj} (hi:σ[i]? = some (b,.obj o)) (ho:o'.isChan = false) {W':World}
  (hb:W'.heap[b]? = some o') (hsz:W'.heap.size = W.heap.size) (hne:∀ k,k ≠ b→W'.heap[k]? = W.heap[k]?) (ht:W'.tape = W.tape) (hos:W'.os = W.os) (hout:W'.output = W.output) :
  Trans ρ σ W (σ.set i (b,.obj o')) W':=by
 have hmem:(b,Res.obj o) ∈ σ:=List.mem_of_getElem? hi
 have hkeys:=Tt (r':=.obj o') hi
 have hset:(b,Res.obj o') ∈ σ.set i (b,.obj o'):=by
  have hlt:i < σ.length:=by
   rcases Nat.lt_or_ge i σ.length with h' | h'
   ·exact h'
   ·rw [List.getElem?_eq_none h'] at hi; cases hi
  exact List.mem_of_getElem? (i:=i) (by rw [List.getElem?_set]; simp [hlt])
 refine ⟨⟨fun k ok hk=>?_,fun p hp=>?_,by rw [hkeys]; exact h.nd,by rw [hkeys]; exact h.dj⟩,by omega,fun k hk=>.inl (by rw [hkeys] at hk; exact hk),fun k hk=>by rw [hkeys]; exact hk,fun k h1 h2=>absurd h2 (by omega),fun k hk hn=>hne k fun e=>hn o (e ▸ hmem),fun c vs=>⟨fun hc=>?_,fun hc=>?_⟩,fun c hc=>?_,fun c hc=>?_,ht,hos,hout⟩
 ·have hkb:k ≠ b:=fun e=>by
   have:=h.dj b (Du hmem)
   rw [e,this] at hk; cases hk
  rw [hne k hkb]; exact h.ro k ok hk
 ·rcases Gq hi h.nd hp with rfl | ⟨hp',hpb⟩
  ·exact ⟨hb,ho⟩
  ·have:=h.own p hp'
   obtain ⟨k,r⟩:=p
   cases r with
   | obj ok=>exact ⟨by rw [hne k hpb]; exact this.1,this.2⟩
   | chan=>obtain ⟨s,r,tm,hh⟩:=this; exact ⟨s,r,tm,by rw [hne k hpb]; exact hh⟩
   | recv vs=>obtain ⟨s,r,cl,tm,hh⟩:=this; exact ⟨s,r,cl,tm,by rw [hne k hpb]; exact hh⟩
 ·rcases Gq hi h.nd hc with e | ⟨hc',_⟩
  ·cases e
  ·exact hc'
 ·exact On hi hc (by simp)
 ·rcases Gq hi h.nd hc with e | ⟨hc',_⟩
  ·cases e
  ·exact .inl hc'
 ·exact On hi hc (by simp)
theorem Sat.pushRes {ρ:Ro} {σ:Own} {W:World} (h:Sat ρ σ W) {o:Obj} {x:Res} (hx:x.fits { W with heap:=W.heap.push o } W.heap.size) (hr:∀ vs,x ≠ .recv vs):Trans ρ σ W ((W.heap.size,x) :: σ) { W with heap:=W.heap.push o }:=by
 have hnk:W.heap.size ∉ keys σ:=fun hk=>absurd (h.key_lt hk) (by omega)
 have hold:∀ k,k < W.heap.size→(W.heap.push o)[k]? = W.heap[k]?:=fun k hk=>by
  rw [Array.getElem?_push]; rw [if_neg (by omega)]
 refine ⟨⟨fun k ok hk=>?_,fun p hp=>?_,List.nodup_cons.2 ⟨hnk,h.nd⟩,fun b hb=>?_⟩,by simp,fun k hk=>?_,fun k hk=>List.mem_cons_of_mem _ hk,fun k h1 h2=>?_,fun k hk _=>hold k hk,fun c vs=>?_,fun c hc=>?_,fun c hc=>List.mem_cons_of_mem _ hc,rfl,rfl,rfl⟩
 ·have:=h.ro k ok hk
  exact ⟨by show (W.heap.push o)[k]? = _; rw [hold k (Dq this.1)]; exact this.1,this.2⟩
 ·rcases List.mem_cons.1 hp with rfl | hp'
  ·exact hx
  ·have:=h.own p hp'
   have hlt:=Res.fits_lt this
   obtain ⟨k,r⟩:=p
   cases r with
   | obj ok=>exact ⟨by show (W.heap.push o)[k]? = _; rw [hold k hlt]; exact this.1,this.2⟩
   | chan=>obtain ⟨s,r,tm,hh⟩:=this; exact ⟨s,r,tm,by show (W.heap.push o)[k]? = _; rw [hold k hlt]; exact hh⟩
   | recv vs=>obtain ⟨s,r,cl,tm,hh⟩:=this; exact ⟨s,r,cl,tm,by show (W.heap.push o)[k]? = _; rw [hold k hlt]; exact hh⟩
 ·rcases List.mem_cons.1 hb with rfl | hb'
  ·cases hr:ρ W.heap.size with
   | none=>rfl
   | some o'=>exact absurd (Dq (h.ro _ _ hr).1) (by omega)
  ·exact h.dj b hb'
 ·rcases List.mem_cons.1 hk with rfl | hk'
  ·exact .inr ⟨Nat.le_refl _,by simp⟩
  ·exact .inl hk'
 ·have hk2:k = W.heap.size:=by simp at h2; omega
  subst hk2; exact List.mem_cons_self ..
 ·constructor
  ·intro hc
   rcases List.mem_cons.1 hc with e | hc
   ·injection e with _ e; exact absurd e.symm (hr vs)
   ·exact hc
  ·exact fun hc=>List.mem_cons_of_mem _ hc
 ·rcases List.mem_cons.1 hc with e | hc
  ·injection e with e _; exact .inr (by omega)
  ·exact .inl hc
theorem Sat.push {ρ:Ro} {σ:Own} {W:World} (h:Sat ρ σ W) {o:Obj} (ho:o.isChan = false):Trans ρ σ W ((W.heap.size,.obj o) :: σ) { W with heap:=W.heap.push o } :=
 h.pushRes (x:=.obj o) ⟨by show (W.heap.push o)[W.heap.size]? = _; simp,ho⟩ (by simp)
theorem World.cell?_of {W:World} {a:Addr} {o:Obj} (h:W.heap[a.block]? = some o) (hs:a.spot = none):W.cell? a = Gy o a.off:=by
 unfold World.cell?
 rw [h]
 cases o <;> simp [Gy,hs]
theorem World.frozen?_of {W:World} {a:Addr} {o:Obj} (h:W.heap[a.block]? = some o):W.frozen? a = Lv o a.off:=by
 unfold World.frozen?
 rw [h]
 cases o <;> simp [Lv]
theorem World.shape?_of {W:World} {r:Nat} {o:Obj} (h:W.heap[r]? = some o):W.shape? r = Xk o:=by
 unfold World.shape?
 rw [h]
 cases o <;> simp [Xk]
theorem mem_push {es:Array Event} {e x:Event} {Pr:Event→Prop} (h:Pr e):x ∈ (es.push e)→x ∈ es∨Pr x:=by
 intro hx
 rcases Array.mem_push.1 hx with h' | rfl
 ·exact .inl h'
 ·exact .inr h
/-- SOUNDNESS: whatever else the world holds. -/
theorem Rr {α:Type} {P:Program} {ρ:Ro}:∀ (s:Sem α) (σ:Own) (Q:α→Own→Prop) (W:World) (es:Array Event),wpS P ρ s σ Q→Sat ρ σ W →
  ∃ a σ' W' es',s.runT P W es = (.ok a W',es')∧Q a σ'∧Trans ρ σ W σ' W'∧∀ e ∈ es',e ∈ es∨EvOk ρ σ' e:=by
 intro s
 induction s with
 | pure a=>exact fun σ Q W es h hs=>⟨a,σ,W,es,rfl,h,.refl hs,fun e he=>.inl he⟩
 | load m a k ih =>
  intro σ Q W es ⟨hm,hsp,o,v,ho,hv,hk⟩ hs
  obtain ⟨a',σ',W',es',h1,h2,h3,h4⟩:=ih v σ Q W (es.push ⟨.cell a,false,false⟩) hk hs
  refine ⟨a',σ',W',es',?_,h2,h3,fun e he=>?_⟩
  ·subst hm
   simp only [Sem.runT,World.cell?_of (hs.has ho).1 hsp,hv]
   exact h1
  ·rcases h4 e he with h | h
   ·rcases Array.mem_push.1 h with h | rfl
    ·exact .inl h
    ·refine .inr (.inl ⟨a,rfl,rfl,?_⟩)
     rcases ho with ho | ho
     ·exact .inr ⟨rfl,by simp [ho]⟩
     ·exact .inl (h3.objs hs ho)
   ·exact .inr h
 | store m a v k ih =>
  intro σ Q W es ⟨hm,hsp,hv,i,c,t,fz,hi,hlt,hfz,hk⟩ hs
  have hmem:(a.block,Res.obj (.cells c t fz)) ∈ σ:=List.mem_of_getElem? hi
  have hb:=(hs.own _ hmem).1
  have hlt':=Dq hb
  have hW:(W.setCell a v).heap[a.block]? = some (.cells (c.setIfInBounds a.off v) t fz):=by
   have:=(Array.getElem?_eq_some_iff.1 hb).2
   simp [World.setCell,Array.getElem?_modify,hb,hsp]
  have htr:Trans ρ σ W (σ.set i (a.block,.obj (.cells (c.setIfInBounds a.off v) t fz))) (W.setCell a v) :=
   hs.setObj hi rfl hW (by simp [World.setCell]) (fun k hk=>by simp [World.setCell,Array.getElem?_modify,Ne.symm hk]) rfl rfl rfl
  obtain ⟨a',σ',W',es',h1,h2,h3,h4⟩:=ih _ Q (W.setCell a v) (es.push ⟨.cell a,true,false⟩) hk htr.sat
  refine ⟨a',σ',W',es',?_,h2,htr.trans hs h3,fun e he=>?_⟩
  ·subst hm
   have hc:W.cell? a = some (c[a.off]):=by rw [World.cell?_of hb hsp]; simp [Gy,hlt]
   have hf:W.frozen? a = false:=by rw [World.frozen?_of hb]; exact hfz
   cases v <;> first | (simp [single] at hv; done) | (simp only [Sem.runT,hc,hf]; exact h1)
  ·rcases h4 e he with h | h
   ·rcases Array.mem_push.1 h with h | rfl
    ·exact .inl h
    ·obtain ⟨o',ho'⟩:=htr.objs hs hmem
     exact .inr (.inl ⟨a,rfl,rfl,.inl (h3.objs htr.sat ho')⟩)
   ·exact .inr h
 | new o k ih =>
  intro σ Q W es h hs
  rcases h with ⟨ho,hk⟩ | ⟨rfl,hk⟩
  ·have htr:=hs.push ho
   obtain ⟨a',σ',W',es',h1,h2,h3,h4⟩:=ih _ _ Q _ es (hk W.heap.size) htr.sat
   exact ⟨a',σ',W',es',by simp only [Sem.runT]; exact h1,h2,htr.trans hs h3,h4⟩
  ·have htr:=hs.pushRes (o:=.chan 0 #[] false 0 0 false) (x:=.chan) ⟨0,0,false,by simp⟩ (by simp)
   obtain ⟨a',σ',W',es',h1,h2,h3,h4⟩:=ih _ _ Q _ es (hk W.heap.size) htr.sat
   exact ⟨a',σ',W',es',by simp only [Sem.runT]; exact h1,h2,htr.trans hs h3,h4⟩
 | shape r k ih =>
  intro σ Q W es ⟨o,ho,hk⟩ hs
  obtain ⟨a',σ',W',es',h1,h2,h3,h4⟩:=ih _ σ Q W es hk hs
  exact ⟨a',σ',W',es',by simp only [Sem.runT,World.shape?_of (hs.has ho).1]; exact h1,h2,h3,h4⟩
 | freeze a n k ih =>
  intro σ Q W es h hs
  rcases h with ⟨hn,hk⟩ | ⟨hn,i,c,t,lo,hi',hi,hk⟩
  ·obtain ⟨a',σ',W',es',h1,h2,h3,h4⟩:=ih σ Q W es hk hs
   exact ⟨a',σ',W',es',by subst hn; simp only [Sem.runT,World.freeze,if_true]; exact h1,h2,h3,h4⟩
  ·have hmem:(a.block,Res.obj (.cells c t (lo,hi'))) ∈ σ:=List.mem_of_getElem? hi
   have hb:=(hs.own _ hmem).1
   have htr:Trans ρ σ W (σ.set i (a.block,.obj (.cells c t (if lo == hi' then (a.off,a.off + n) else (min lo a.off,max hi' (a.off + n)))))) (W.freeze a n) :=
    hs.setObj hi rfl (by simp [World.freeze,hn,Array.getElem?_modify,hb]) (by simp [World.freeze,hn]) (fun k hk=>by simp [World.freeze,hn,Array.getElem?_modify,Ne.symm hk])
     (by simp [World.freeze,hn]) (by simp [World.freeze,hn]) (by simp [World.freeze,hn])
   obtain ⟨a',σ',W',es',h1,h2,h3,h4⟩:=ih _ Q (W.freeze a n) es hk htr.sat
   exact ⟨a',σ',W',es',by simp only [Sem.runT]; exact h1,h2,htr.trans hs h3,h4⟩
 | frozen a k ih =>
  intro σ Q W es ⟨o,ho,hk⟩ hs
  obtain ⟨a',σ',W',es',h1,h2,h3,h4⟩:=ih _ σ Q W es hk hs
  exact ⟨a',σ',W',es',by simp only [Sem.runT,World.frozen?_of (hs.has ho).1]; exact h1,h2,h3,h4⟩
 | getObj r k ih =>
  intro σ Q W es ⟨o,ho,hc,hk⟩ hs
  obtain ⟨hh,hch⟩:=hs.has ho
  obtain ⟨a',σ',W',es',h1,h2,h3,h4⟩:=ih o σ Q W (es.push ⟨.obj r,false,false⟩) hk hs
  refine ⟨a',σ',W',es',?_,h2,h3,fun e he=>?_⟩
  ·cases o <;> first | (simp [Sj] at hc; done) | (simp [Obj.isChan] at hch; done) | (simp only [Sem.runT,hh,Obj.isChan]; exact h1)
  ·rcases h4 e he with h | h
   ·rcases Array.mem_push.1 h with h | rfl
    ·exact .inl h
    ·refine .inr (.inr (.inl ⟨r,rfl,rfl,?_⟩))
     rcases ho with ho | ho
     ·exact .inr ⟨rfl,by simp [ho]⟩
     ·exact .inl (h3.objs hs ho)
   ·exact .inr h
 | setObj r o k ih =>
  intro σ Q W es ⟨ho,i,o₀,hi,hc,hk⟩ hs
  have hmem:(r,Res.obj o₀) ∈ σ:=List.mem_of_getElem? hi
  have hb:=(hs.own _ hmem).1
  have hlt:=Dq hb
  have htr:Trans ρ σ W (σ.set i (r,.obj o)) { W with heap:=W.heap.setIfInBounds r o } :=
   hs.setObj hi ho (by simp [hlt]) (by simp) (fun k hk=>by simp [Ne.symm hk]) rfl rfl rfl
  obtain ⟨a',σ',W',es',h1,h2,h3,h4⟩:=ih _ Q _ (es.push ⟨.obj r,true,false⟩) hk htr.sat
  refine ⟨a',σ',W',es',?_,h2,htr.trans hs h3,fun e he=>?_⟩
  ·cases o₀ <;> first | (simp [Sj] at hc; done) | (simp only [Sem.runT,hb,ho]; exact h1)
  ·rcases h4 e he with h | h
   ·rcases Array.mem_push.1 h with h | rfl
    ·exact .inl h
    ·obtain ⟨o',ho'⟩:=htr.objs hs hmem
     exact .inr (.inr (.inl ⟨r,rfl,rfl,.inl (h3.objs htr.sat ho')⟩))
   ·exact .inr h
 | choose q k ih =>
  intro σ Q W es h hs
  simp only [wpS] at h
  cases hq:q.forced with
  | true =>
   simp only [hq,if_true] at h
   obtain ⟨a',σ',W',es',h1,h2,h3,h4⟩:=ih _ σ Q W es h hs
   exact ⟨a',σ',W',es',by simp only [Sem.runT,hq,if_true]; exact h1,h2,h3,h4⟩
  | false =>
   simp only [hq,Bool.false_eq_true,if_false] at h
   have hs':Sat ρ σ { W with drawn:=W.drawn + 1 }:=⟨hs.ro,hs.own,hs.nd,hs.dj⟩
   obtain ⟨a',σ',W',es',h1,h2,h3,h4⟩:=ih _ σ Q { W with drawn:=W.drawn + 1 } es (h (W.tape W.drawn q)) hs'
   exact ⟨a',σ',W',es',by simp only [Sem.runT,hq,Bool.false_eq_true,if_false]; exact h1,h2,⟨h3.sat,h3.size,h3.keys,h3.kept,h3.fresh,h3.frame,h3.ends,h3.chans,h3.chansKept,h3.tape,h3.os,h3.output⟩,h4⟩
 | sys c k ih=>exact fun σ Q W es h _=>h.elim
 | program k ih =>
  intro σ Q W es h hs
  obtain ⟨a',σ',W',es',h1,h2,h3,h4⟩:=ih _ σ Q W es h hs
  exact ⟨a',σ',W',es',by simp only [Sem.runT]; exact h1,h2,h3,h4⟩
 | mark m k ih =>
  intro σ Q W es ⟨hm,hk⟩ hs
  obtain ⟨a',σ',W',es',h1,h2,h3,h4⟩:=ih σ Q W (es.push ⟨.mark m,false,true⟩) hk hs
  refine ⟨a',σ',W',es',by simp only [Sem.runT]; exact h1,h2,h3,fun e he=>?_⟩
  rcases h4 e he with h | h
  ·rcases Array.mem_push.1 h with h | rfl
   ·exact .inl h
   ·exact .inr (.inr (.inr ⟨m,rfl,hm⟩))
  ·exact .inr h
 | halt h=>exact fun σ Q W es h _=>h.elim
theorem Eu {α:Type} {P:Program} {ρ:Ro} {Q Q':α→Own→Prop} (hq:∀ a σ,Q a σ→Q' a σ):∀ (s:Sem α) (σ:Own),wpS P ρ s σ Q→wpS P ρ s σ Q':=by
 intro s
 induction s with
 | pure a=>exact fun σ h=>hq _ _ h
 | load m a k ih=>exact fun σ ⟨h1,h2,o,v,h3,h4,h5⟩=>⟨h1,h2,o,v,h3,h4,ih v σ h5⟩
 | store m a v k ih=>exact fun σ ⟨h1,h2,h3,i,c,t,fz,h4,h5,h6,h7⟩=>⟨h1,h2,h3,i,c,t,fz,h4,h5,h6,ih _ h7⟩
 | new o k ih=>exact fun σ h=>h.imp (fun ⟨h1,h2⟩=>⟨h1,fun r=>ih r _ (h2 r)⟩) (fun ⟨h1,h2⟩=>⟨h1,fun r=>ih r _ (h2 r)⟩)
 | shape r k ih=>exact fun σ ⟨o,h1,h2⟩=>⟨o,h1,ih _ _ h2⟩
 | freeze a n k ih=>exact fun σ h=>h.imp (fun ⟨h1,h2⟩=>⟨h1,ih _ h2⟩) (fun ⟨h1,i,c,t,lo,hi,h2,h3⟩=>⟨h1,i,c,t,lo,hi,h2,ih _ h3⟩)
 | frozen a k ih=>exact fun σ ⟨o,h1,h2⟩=>⟨o,h1,ih _ _ h2⟩
 | getObj r k ih=>exact fun σ ⟨o,h1,h2,h3⟩=>⟨o,h1,h2,ih _ _ h3⟩
 | setObj r o k ih=>exact fun σ ⟨h1,i,o₀,h2,h3,h4⟩=>⟨h1,i,o₀,h2,h3,ih _ h4⟩
 | choose q k ih =>
  intro σ h
  simp only [wpS] at h ⊢
  split
  ·rename_i hf; rw [if_pos hf] at h; exact ih _ _ h
  ·rename_i hf; rw [if_neg hf] at h; exact fun t=>ih _ _ (h t)
 | sys c k ih=>exact fun σ h=>h
 | program k ih=>exact fun σ h=>ih _ _ h
 | mark m k ih=>exact fun σ ⟨h1,h2⟩=>⟨h1,ih _ h2⟩
 | halt h=>exact fun σ h=>h
theorem Ad {α β:Type} {P:Program} {ρ:Ro} {Q:β→Own→Prop} (f:α→Sem β):∀ (s:Sem α) (σ:Own),wpS P ρ (s.bind f) σ Q↔wpS P ρ s σ (fun a σ'=>wpS P ρ (f a) σ' Q):=by
 intro s
 induction s with
 | pure a=>exact fun σ=>Iff.rfl
 | load m a k ih=>intro σ; simp only [Sem.bind,wpS,ih]
 | store m a v k ih=>intro σ; simp only [Sem.bind,wpS,ih]
 | new o k ih=>intro σ; simp only [Sem.bind,wpS,ih]
 | shape r k ih=>intro σ; simp only [Sem.bind,wpS,ih]
 | freeze a n k ih=>intro σ; simp only [Sem.bind,wpS,ih]
 | frozen a k ih=>intro σ; simp only [Sem.bind,wpS,ih]
 | getObj r k ih=>intro σ; simp only [Sem.bind,wpS,ih]
 | setObj r o k ih=>intro σ; simp only [Sem.bind,wpS,ih]
 | choose q k ih=>intro σ; simp only [Sem.bind,wpS,ih]
 | sys c k ih=>intro σ; simp only [Sem.bind,wpS]
 | program k ih=>intro σ; simp only [Sem.bind,wpS,ih]
 | mark m k ih=>intro σ; simp only [Sem.bind,wpS,ih]
 | halt h=>intro σ; simp only [Sem.bind,wpS]
end
section
open Go
abbrev Cy:=Frame→List Frame→Ro→Own→Prop
/-- A program,whether the goroutine is the first one,and what else than own steps it may rely on. -/
structure Ctx where
 P:Program
 main:Bool
 X:Frame→List Frame→Ro→Own→Cy→Prop
/-- What is held may be told otherwise: forgotten,put in another order,shared for good. -/
structure Ghost (ρ:Ro) (σ:Own) (ρ':Ro) (σ':Own):Prop where
 sat:∀ W,Sat ρ σ W→Sat ρ' σ' W
 objs:∀ b o,(b,Res.obj o) ∈ σ'→∃ o',(b,Res.obj o') ∈ σ
 dom:∀ b,(ρ' b).isSome = true→(ρ b).isSome = true∨∃ o,(b,Res.obj o) ∈ σ
 ends:∀ c vs,(c,Res.recv vs) ∈ σ'↔(c,Res.recv vs) ∈ σ
 keys:∀ b ∈ keys σ',b ∈ Go.Proofs.YtphgjjmlnkgghaaGreatDoor.keys σ
 chans:∀ c,(c,Res.chan) ∈ σ'→(c,Res.chan) ∈ σ
def Aal (C:Ctx) (fr:Frame) (cs:List Frame) (ρ:Ro) (σ:Own) (K:Frame→List Frame→Own→Prop):Prop :=
 ∀ W,Sat ρ σ W→∃ fr' cs' W' es σ',stepG C.P C.main (Conc.G fr cs) W = .go (Conc.G fr' cs') W' es∧Trans ρ σ W σ' W'∧(∀ e ∈ es,EvOk ρ σ' e)∧K fr' cs' σ'
inductive GoesH (C:Ctx) (S:Cy):Frame→List Frame→Ro→Own→Prop
 | stop {fr cs ρ σ}:S fr cs ρ σ→GoesH C S fr cs ρ σ
 | ghost {fr cs ρ σ ρ' σ'}:Ghost ρ σ ρ' σ'→GoesH C S fr cs ρ' σ'→GoesH C S fr cs ρ σ
 | step {fr cs ρ σ} (K:Frame→List Frame→Own→Prop):Aal C fr cs ρ σ K→(∀ fr' cs' σ',K fr' cs' σ'→GoesH C S fr' cs' ρ σ')→GoesH C S fr cs ρ σ
 | ext {fr cs ρ σ} (K:Cy):C.X fr cs ρ σ K→(∀ fr' cs' ρ' σ',K fr' cs' ρ' σ'→GoesH C S fr' cs' ρ' σ')→GoesH C S fr cs ρ σ
theorem GoesH.bind {C:Ctx} {S S':Cy} {fr:Frame} {cs:List Frame} {ρ:Ro} {σ:Own} (h:GoesH C S fr cs ρ σ) (hk:∀ fr cs ρ σ,S fr cs ρ σ→GoesH C S' fr cs ρ σ):GoesH C S' fr cs ρ σ:=by
 induction h with
 | stop h=>exact hk _ _ _ _ h
 | ghost hg _ ih=>exact .ghost hg ih
 | step K h1 _ ih=>exact .step K h1 ih
 | ext K h1 _ ih=>exact .ext K h1 ih
theorem GoesH.mono {C:Ctx} {S S':Cy} {fr:Frame} {cs:List Frame} {ρ:Ro} {σ:Own} (h:GoesH C S fr cs ρ σ) (hk:∀ fr cs ρ σ,S fr cs ρ σ→S' fr cs ρ σ):GoesH C S' fr cs ρ σ :=
 h.bind fun fr cs ρ σ hs=>.stop (hk fr cs ρ σ hs)
section
variable {C:Ctx} {S:Cy} {fr fr':Frame} {cs cs':List Frame} {ρ:Ro} {σ:Own}
theorem Eh (h:∀ W,stepG C.P C.main (Conc.G fr cs) W = .go (Conc.G fr' cs') W #[]) (hk:GoesH C S fr' cs' ρ σ):GoesH C S fr cs ρ σ :=
 .step (fun a b c=>a = fr'∧b = cs'∧c = σ) (fun W hs=>⟨fr',cs',W,#[],σ,h W,.refl hs,by simp,rfl,rfl,rfl⟩) (by rintro _ _ _ ⟨rfl,rfl,rfl⟩; exact hk)
theorem Lh {P:Program} {fn:FuncId} {es:Array Event} {e:Event} (h:e ∈ seen P fn es):e ∈ es:=by
 obtain ⟨l⟩:=es
 unfold seen at h
 simp only [List.foldl_toArray'] at h
 revert h
 generalize (Option.any (fun x=>x.norace) P.funcs[fn]?) = q
 have key:∀ (g:Bool × Array Event→Event→Bool × Array Event),(∀ x ev,(g x ev).2 = x.2∨(g x ev).2 = x.2.push ev)→∀ (l:List Event) (x:Bool × Array Event),e ∈ (l.foldl g x).2→e ∈ x.2∨e ∈ l:=by
  intro g hg l
  induction l with
  | nil=>exact fun x h=>.inl h
  | cons y l ih =>
   intro x h
   rcases ih _ h with h | h
   ·rcases hg x y with h1 | h1
    ·rw [h1] at h; exact .inl h
    ·rw [h1] at h
     rcases Array.mem_push.1 h with h | rfl
     ·exact .inl h
     ·exact .inr (List.mem_cons_self ..)
   ·exact .inr (List.mem_cons_of_mem _ h)
 intro h
 rcases key _ (fun x ev=>by
  obtain ⟨q,k⟩:=x
  simp only
  split
  ·exact .inl rfl
  ·simp only
   split
   ·exact .inl rfl
   ·exact .inr rfl) _ _ h with h | h
 ·simp at h
 ·simpa using h
/-- A step that carries out a computation. -/
theorem Lw {α:Type} {s:Sem α} {f:α→Frame × List Frame}
  (h:∀ W,∀ a W' es,s.runT C.P W #[] = (.ok a W',es)→∃ es',stepG C.P C.main (Conc.G fr cs) W = .go (Conc.G (f a).1 (f a).2) W' es'∧∀ e ∈ es',e ∈ es)
  {Q:α→Own→Prop} (hw:wpS C.P ρ s σ Q) (hk:∀ a σ',Q a σ'→GoesH C S (f a).1 (f a).2 ρ σ'):GoesH C S fr cs ρ σ:=by
 refine .step (fun a b c=>∃ x,Q x c∧a = (f x).1∧b = (f x).2) (fun W hs=>?_) (by rintro _ _ _ ⟨x,hx,rfl,rfl⟩; exact hk x _ hx)
 obtain ⟨a,σ',W',es,h1,h2,h3,h4⟩:=Rr s σ Q W #[] hw hs
 obtain ⟨es',h5,h6⟩:=h W a W' es h1
 exact ⟨_,_,W',es',σ',h5,h3,fun e he=>(h4 e (h6 e he)).resolve_left (by simp),a,h2,rfl,rfl⟩
end
structure FB where
 fn:FuncId
 kind:CallKind
 round:Option Nat
def Fr (b:FB) (tm:Array Value) (ds:List Deferred) (todo:List Item):Frame :=
 { fn:=b.fn,tmps:=tm,todo:=todo,defers:=ds,mode:=.run,kind:=b.kind,roundOf:=b.round }
abbrev Env:=Nat→Value
def EnvOf (n:Nat) (tm:Array Value) (e:Env):Prop:=tm.size = n∧∀ i,tm.getD i undef = e i
def Af (e:Env):Operand→Value
 | .tmp t=>e t
 | .const v=>v
 | .global g=>.pointer (some ⟨g,0,none⟩)
 | .func f=>.func (.func f) #[] #[]
def upd (e:Env) (d:Nat) (v:Value):Env:=fun i=>if i = d then v else e i
def Ja (e:Env) (d:Option Tmp) (v:Value):Env :=
 match d with
 | some d=>upd e d v
 | none=>e
theorem EnvOf.eval {n:Nat} {tm:Array Value} {e:Env} (h:EnvOf n tm e) (b:FB) (ds:List Deferred) (todo:List Item):(Fr b tm ds todo).eval = Af e:=by
 funext x
 cases x <;> simp [Frame.eval,Af,Fr,← h.2]
theorem EnvOf.put {n:Nat} {tm:Array Value} {e:Env} (h:EnvOf n tm e) {d:Nat} (hd:d < n) (v:Value):EnvOf n (tm.setIfInBounds d v) (upd e d v):=by
 refine ⟨by simp [h.1],fun i=>?_⟩
 unfold upd
 rw [Array.getD_eq_getD_getElem?,Array.getElem?_setIfInBounds]
 by_cases hi:i = d
 ·subst hi; simp [h.1,hd]
 ·rw [if_neg (Ne.symm hi),if_neg hi,← Array.getD_eq_getD_getElem?]; exact h.2 i
inductive Ex where
 | normal
 | exit (id:Nat)
 | ret
def Wc (id:Nat):Item→Bool
 | .inBlock id'=>id' != id
 | _=>true
def Pl:Ex→List Item→List Item→Prop
 | .normal,k,t=>t = k
 | .exit id,k,t=>∃ pre,(∀ x ∈ pre,Wc id x = true)∧t = .code (.exit id) :: (pre ++ k)
 | .ret,k,t=>∃ pre,t = .code .ret :: (pre ++ k)
abbrev Hu:=Ex→Env→List Deferred→Ro→Own→Prop
/-- ████ THE JUDGEMENT: a piece of code,run by this goroutine from what it holds,is left in a way and a state that satisfy Q. -/
def WpC (C:Ctx) (b:FB) (n:Nat) (c:Code) (Q:Hu) (e:Env) (ds:List Deferred) (ρ:Ro) (σ:Own):Prop :=
 ∀ tm k cs,EnvOf n tm e→GoesH C (fun fr cs' ρ' σ'=>cs' = cs∧∃ ex tm' e' ds' todo,EnvOf n tm' e'∧Q ex e' ds' ρ' σ'∧Pl ex k todo∧fr = Fr b tm' ds' todo) (Fr b tm ds (.code c :: k)) cs ρ σ
section rules
variable {C:Ctx} {b:FB} {n:Nat} {Q Q':Hu} {e:Env} {ds:List Deferred} {ρ ρ':Ro} {σ σ':Own}
theorem Adw {c:Code} (h:WpC C b n c Q e ds ρ σ) (hq:∀ ex e ds ρ σ,Q ex e ds ρ σ→Q' ex e ds ρ σ):WpC C b n c Q' e ds ρ σ :=
 fun tm k cs ht=>(h tm k cs ht).mono fun _ _ _ _ ⟨h1,ex,tm',e',ds',todo,h2,h3,h4⟩=>⟨h1,ex,tm',e',ds',todo,h2,hq _ _ _ _ _ h3,h4⟩
theorem Aj {c:Code} (hg:Ghost ρ σ ρ' σ') (h:WpC C b n c Q e ds ρ' σ'):WpC C b n c Q e ds ρ σ :=
 fun tm k cs ht=>.ghost hg (h tm k cs ht)
theorem Al (h:Q .normal e ds ρ σ):WpC C b n .skip Q e ds ρ σ:=fun tm k cs ht =>
 Eh (fr':=Fr b tm ds k) (cs':=cs) (fun W=>by simp [Conc.G,stepG,stepG.exec,Fr]) (.stop ⟨rfl,.normal,tm,e,ds,k,ht,h,rfl,rfl⟩)
theorem Aq (h:Q .ret e ds ρ σ):WpC C b n .ret Q e ds ρ σ:=fun tm k _ ht =>
 .stop ⟨rfl,.ret,tm,e,ds,_,ht,h,⟨[],rfl⟩,rfl⟩
theorem Bx {id:Nat} (h:Q (.exit id) e ds ρ σ):WpC C b n (.exit id) Q e ds ρ σ:=fun tm k _ ht =>
 .stop ⟨rfl,.exit id,tm,e,ds,_,ht,h,⟨[],by simp,rfl⟩,rfl⟩
def Zo (M:Env→List Deferred→Ro→Own→Prop) (Q:Hu):Hu
 | .normal,e,ds,ρ,σ=>M e ds ρ σ
 | ex,e,ds,ρ,σ=>Q ex e ds ρ σ
theorem He {ex:Ex} {x:Item} {k t:List Item} (hne:ex ≠ .normal) (hx:∀ id,Wc id x = true) (h:Pl ex (x :: k) t):Pl ex k t:=by
 cases ex with
 | normal=>exact absurd rfl hne
 | exit id =>
  obtain ⟨pre,hp,rfl⟩:=h
  exact ⟨pre ++ [x],fun y hy=>(List.mem_append.1 hy).elim (hp y) (fun hy=>by rw [List.mem_singleton.1 hy]; exact hx id),by simp⟩
 | ret =>
  obtain ⟨pre,rfl⟩:=h
  exact ⟨pre ++ [x],by simp⟩
theorem Ai {x y:Code} (h:∀ K:Env→List Deferred→Ro→Own→Prop,(∀ e ds ρ σ,WpC C b n y Q e ds ρ σ→K e ds ρ σ)→WpC C b n x (Zo K Q) e ds ρ σ):WpC C b n (.seq x y) Q e ds ρ σ:=by
 intro tm k cs ht
 refine Eh (fr':=Fr b tm ds (.code x :: .code y :: k)) (cs':=cs) (fun W=>by simp [Conc.G,stepG,stepG.exec,Fr]) ?_
 refine (h (WpC C b n y Q) (fun _ _ _ _ h=>h) tm (.code y :: k) cs ht).bind ?_
 rintro _ _ ρ' σ' ⟨rfl,ex,tm',e',ds',todo,h1,h2,h3,rfl⟩
 cases ex with
 | normal=>cases h3; exact h2 tm' k _ h1
 | exit id=>exact .stop ⟨rfl,.exit id,tm',e',ds',todo,h1,h2,He (by simp) (fun _=>rfl) h3,rfl⟩
 | ret=>exact .stop ⟨rfl,.ret,tm',e',ds',todo,h1,h2,He (by simp) (fun _=>rfl) h3,rfl⟩
theorem Up {c:Operand} {x y:Code} {t:Bool} (hc:Af e c = .bool t) (h1:t = true→WpC C b n x Q e ds ρ σ) (h0:t = false→WpC C b n y Q e ds ρ σ):WpC C b n (.cond c x y) Q e ds ρ σ:=by
 intro tm k cs ht
 have hev:(Fr b tm ds (.code (.cond c x y) :: k)).eval c = .bool t:=by rw [ht.eval]; exact hc
 refine Eh (fr':=Fr b tm ds (.code (if t then x else y) :: k)) (cs':=cs) (fun W=>?_) ?_
 ·simp only [Fr] at hev
  simp [Conc.G,stepG,stepG.exec,Fr,hev]
 ·cases t with
  | true=>exact h1 rfl tm k cs ht
  | false=>exact h0 rfl tm k cs ht
def Qy (id:Nat) (Q:Hu):Hu
 | .exit id',e,ds,ρ,σ=>if id' = id then Q .normal e ds ρ σ else Q (.exit id') e ds ρ σ
 | ex,e,ds,ρ,σ=>Q ex e ds ρ σ
theorem Mj {id:Nat} {k:List Item}:∀ {pre:List Item},(∀ x ∈ pre,Wc id x = true)→exitTo id (pre ++ k) = exitTo id k
 | [],_=>rfl
 | x :: pre,h=>by
  have hx:=h x (List.mem_cons_self ..)
  have:=Mj (pre:=pre) (k:=k) fun y hy=>h y (List.mem_cons_of_mem _ hy)
  cases x <;> simp_all [exitTo,Wc]
theorem Ao {id:Nat} {c:Code} (h:WpC C b n c (Qy id Q) e ds ρ σ):WpC C b n (.block id c) Q e ds ρ σ:=by
 intro tm k cs ht
 refine Eh (fr':=Fr b tm ds (.code c :: .inBlock id :: k)) (cs':=cs) (fun W=>by simp [Conc.G,stepG,stepG.exec,Fr]) ?_
 refine (h tm (.inBlock id :: k) cs ht).bind ?_
 rintro _ _ ρ' σ' ⟨rfl,ex,tm',e',ds',todo,h1,h2,h3,rfl⟩
 cases ex with
 | normal =>
  cases h3
  exact Eh (fr':=Fr b tm' ds' k) (fun W=>by simp [Conc.G,stepG,stepG.exec,Fr]) (.stop ⟨rfl,.normal,tm',e',ds',k,h1,h2,rfl,rfl⟩)
 | exit id' =>
  obtain ⟨pre,hp,rfl⟩:=h3
  by_cases hid:id' = id
  ·subst hid
   simp only [Qy,if_true] at h2
   refine Eh (fr':=Fr b tm' ds' k) (fun W=>?_) (.stop ⟨rfl,.normal,tm',e',ds',k,h1,h2,rfl,rfl⟩)
   have:exitTo id' (pre ++ .inBlock id' :: k) = some k:=by rw [Mj hp]; simp [exitTo]
   simp [Conc.G,stepG,stepG.exec,Fr,this]
  ·simp only [Qy,hid,if_false] at h2
   refine .stop ⟨rfl,.exit id',tm',e',ds',_,h1,h2,⟨pre ++ [.inBlock id],fun y hy=>?_,by simp⟩,rfl⟩
   rcases List.mem_append.1 hy with hy | hy
   ·exact hp y hy
   ·rw [List.mem_singleton.1 hy]; simp [Wc,Ne.symm hid]
 | ret =>
  obtain ⟨pre,rfl⟩:=h3
  exact .stop ⟨rfl,.ret,tm',e',ds',_,h1,h2,⟨pre ++ [.inBlock id],by simp⟩,rfl⟩
/-- A loop: an invariant and a measure. -/
theorem Cc {c:Code} (I:Nat→Env→List Deferred→Ro→Own→Prop) {m:Nat} (h₀:I m e ds ρ σ)
  (round:∀ m e ds ρ σ,I m e ds ρ σ→WpC C b n c (Zo (fun e' ds' ρ' σ'=>∃ m',m' < m∧I m' e' ds' ρ' σ') Q) e ds ρ σ):WpC C b n (.loop c) Q e ds ρ σ:=by
 intro tm k cs ht
 refine Eh (fr':=Fr b tm ds (.code c :: .inLoop c :: k)) (cs':=cs) (fun W=>by simp [Conc.G,stepG,stepG.exec,Fr]) ?_
 induction m using Nat.strongRecOn generalizing tm e ds ρ σ with
 | _ m ih =>
  refine (round m e ds ρ σ h₀ tm (.inLoop c :: k) cs ht).bind ?_
  rintro _ _ ρ' σ' ⟨rfl,ex,tm',e',ds',todo,h1,h2,h3,rfl⟩
  cases ex with
  | normal =>
   cases h3
   obtain ⟨m',hlt,hI⟩:=h2
   exact Eh (fr':=Fr b tm' ds' (.code c :: .inLoop c :: k)) (fun W=>by simp [Conc.G,stepG,stepG.exec,Fr]) (ih m' hlt hI tm' h1)
  | exit id=>exact .stop ⟨rfl,.exit id,tm',e',ds',todo,h1,h2,He (by simp) (fun _=>rfl) h3,rfl⟩
  | ret=>exact .stop ⟨rfl,.ret,tm',e',ds',todo,h1,h2,He (by simp) (fun _=>rfl) h3,rfl⟩
end rules
/-- A call of a function from what is held: it returns a value,and leaves what satisfies R. -/
def CallsH (C:Ctx) (f:FuncId) (args:Array Value) (ρ:Ro) (σ:Own) (R:Value→Ro→Own→Prop):Prop :=
 ∀ c cs,GoesH C (fun fr cs' ρ' σ'=>∃ v,fr = Frame.finish c v∧cs' = cs∧R v ρ' σ') (Frame.enter C.P f args .normal) (c :: cs) ρ σ
/-- A round of a range over a function,called by the iterator. -/
def RoundH (C:Ctx) (l:Nat) (f:FuncId) (tmps:Array Value) (assign body:Code) (ρ:Ro) (σ:Own) (R:Value→Ro→Own→Prop):Prop :=
 ∀ c cs,GoesH C (fun fr cs' ρ' σ'=>∃ v,fr = Frame.finish c v∧cs' = cs∧R v ρ' σ') (Frame.round l f tmps assign body .normal) (c :: cs) ρ σ
theorem CallsH.mono {C:Ctx} {f:FuncId} {args:Array Value} {ρ:Ro} {σ:Own} {R R':Value→Ro→Own→Prop} (h:CallsH C f args ρ σ R) (hr:∀ v ρ' σ',R v ρ' σ'→R' v ρ' σ'):CallsH C f args ρ σ R' :=
 fun c cs=>(h c cs).mono fun _ _ _ _ ⟨v,h1,h2,h3⟩=>⟨v,h1,h2,hr _ _ _ h3⟩
theorem RoundH.mono {C:Ctx} {l:Nat} {f:FuncId} {tmps:Array Value} {assign body:Code} {ρ:Ro} {σ:Own} {R R':Value→Ro→Own→Prop} (h:RoundH C l f tmps assign body ρ σ R) (hr:∀ v ρ' σ',R v ρ' σ'→R' v ρ' σ'):RoundH C l f tmps assign body ρ σ R' :=
 fun c cs=>(h c cs).mono fun _ _ _ _ ⟨v,h1,h2,h3⟩=>⟨v,h1,h2,hr _ _ _ h3⟩
theorem CallsH.ghost {C:Ctx} {f:FuncId} {args:Array Value} {ρ ρ':Ro} {σ σ':Own} {R:Value→Ro→Own→Prop} (hg:Ghost ρ σ ρ' σ') (h:CallsH C f args ρ' σ' R):CallsH C f args ρ σ R :=
 fun c cs=>.ghost hg (h c cs)
/-- What follows an operation's computation. -/
def NextH (C:Ctx) (K:Value→List Deferred→Ro→Own→Prop) (rd:Option Nat) (ds:List Deferred) (ρ:Ro) (nx:Next) (σ:Own):Prop :=
 match nx with
 | .value v=>K v ds ρ σ
 | .skip=>K undef ds ρ σ
 | .defer d=>rd = none∧K undef (d :: ds) ρ σ
 | .enter f args=>CallsH C f args ρ σ (fun v ρ' σ'=>K v ds ρ' σ')
 | .round l f tmps assign body=>RoundH C l f tmps assign body ρ σ (fun v ρ' σ'=>K v ds ρ' σ')
 | _=>False
theorem NextH.mono {C:Ctx} {K K':Value→List Deferred→Ro→Own→Prop} {rd:Option Nat} {ds:List Deferred} {ρ:Ro} {nx:Next} {σ:Own} (h:NextH C K rd ds ρ nx σ) (hk:∀ v ds ρ σ,K v ds ρ σ→K' v ds ρ σ):NextH C K' rd ds ρ nx σ:=by
 cases nx <;> simp only [NextH] at h ⊢ <;> first | exact hk _ _ _ _ h | exact ⟨h.1,hk _ _ _ _ h.2⟩ | exact h.mono fun _ _ _ h=>hk _ _ _ _ h
def Ht (ops:Array Oper) (e:Env) (j:Nat):Option Bool :=
 match (ops[j]?).bind (·.dst) with
 | some d=>match e d with
  | .bool b=>some b
  | _=>none
 | none=>none
def Bz (ops:Array Oper) (o:Oper) (e:Env):Bool :=
 match o.guard with
 | none=>true
 | some (j,want)=>Ht ops e j == some want
def Fu (n:Nat) (ops:Array Oper):Bool:=ops.all fun o=>match o.dst with | some d=>decide (d < n) | none=>true
theorem Uj {n:Nat} {ops:Array Oper} (h:Fu n ops = true) {i:Nat} {o:Oper} (ho:ops[i]? = some o) {d:Nat} (hd:o.dst = some d):d < n:=by
 have:=Array.all_eq_true_iff_forall_mem.1 h o (Array.mem_of_getElem? ho)
 simpa [hd] using this
/-- Operation number i of a region. -/
def OpH (C:Ctx) (b:FB) (ops:Array Oper) (i:Nat) (K:Env→List Deferred→Ro→Own→Prop) (e:Env) (ds:List Deferred) (ρ:Ro) (σ:Own):Prop :=
 match ops[i]? with
 | none=>False
 | some o=>if Bz ops o e = true then wpS C.P ρ (execOp (Af e) o) σ (NextH C (fun v=>K (Ja e o.dst v)) b.round ds ρ) else K (Ja e o.dst undef) ds ρ σ
theorem OpH.mono {C:Ctx} {b:FB} {ops:Array Oper} {i:Nat} {K K':Env→List Deferred→Ro→Own→Prop} {e:Env} {ds:List Deferred} {ρ:Ro} {σ:Own} (h:OpH C b ops i K e ds ρ σ) (hk:∀ e ds ρ σ,K e ds ρ σ→K' e ds ρ σ):OpH C b ops i K' e ds ρ σ:=by
 unfold OpH at *
 split at h
 ·exact h.elim
 ·rename_i o ho
  split
  ·rename_i hw; rw [if_pos hw] at h; exact Eu (fun nx σ' h=>h.mono fun v ds ρ σ h=>hk _ _ _ _ h) _ _ h
  ·rename_i hw; rw [if_neg hw] at h; exact hk _ _ _ _ h
/-- The operations of a region that are still to come,in this order. -/
def Lq (C:Ctx) (b:FB) (n:Nat) (ops:Array Oper) (todo:List Nat) (Q:Env→List Deferred→Ro→Own→Prop) (e:Env) (ds:List Deferred) (ρ:Ro) (σ:Own):Prop :=
 ∀ tm k cs,EnvOf n tm e→GoesH C (fun fr cs' ρ' σ'=>cs' = cs∧∃ tm' e' ds',EnvOf n tm' e'∧Q e' ds' ρ' σ'∧fr = Fr b tm' ds' k) (Fr b tm ds (.inRegion ops todo :: k)) cs ρ σ
section ops
variable {C:Ctx} {b:FB} {n:Nat} {ops:Array Oper} {Q:Env→List Deferred→Ro→Own→Prop} {e:Env} {ds:List Deferred} {ρ:Ro} {σ:Own}
theorem Xh (h:Q e ds ρ σ):Lq C b n ops [] Q e ds ρ σ:=fun tm k cs ht =>
 Eh (fr':=Fr b tm ds k) (cs':=cs) (fun W=>by simp [Conc.G,stepG,stepG.exec,Fr]) (.stop ⟨rfl,tm,e,ds,ht,h,rfl⟩)
theorem Ij {tm:Array Value} (hs:Fu n ops = true) (ht:EnvOf n tm e) (o:Oper):Region.wanted o (yielded ops tm) = Bz ops o e:=by
 unfold Region.wanted Bz
 cases o.guard with
 | none=>rfl
 | some jw =>
  obtain ⟨j,want⟩:=jw
  have:yielded ops tm j = Ht ops e j:=by
   unfold yielded Ht
   cases hd:(ops[j]?).bind (·.dst) with
   | none=>rfl
   | some d =>
    obtain ⟨oj,hoj,hdj⟩:=Option.bind_eq_some_iff.1 hd
    have hlt:=Uj hs hoj hdj
    have:tm[d]? = some (e d):=by
     rw [← ht.2 d,Array.getD_eq_getD_getElem?]
     rw [Array.getElem?_eq_getElem (by rw [ht.1]; exact hlt)]; rfl
    simp only [Option.bind_some,this]
    cases e d <;> rfl
  simp only [this]
theorem Ju {i:Nat} {rest:List Nat} {tm:Array Value} {k:List Item} {o:Oper} (ho:ops[i]? = some o) (v:Value) :
  (Fr b tm ds (.inRegion ops (i :: rest) :: k)).finish v = Fr b (match o.dst with | some d=>tm.setIfInBounds d v | none=>tm) ds (.inRegion ops rest :: k):=by
 simp only [Frame.finish,Fr,ho,Option.bind_some]
 cases o.dst <;> rfl
theorem Jj {tm:Array Value} (hs:Fu n ops = true) (ht:EnvOf n tm e) {i:Nat} {o:Oper} (ho:ops[i]? = some o) (v:Value) :
  EnvOf n (match o.dst with | some d=>tm.setIfInBounds d v | none=>tm) (Ja e o.dst v):=by
 cases hd:o.dst with
 | none=>exact ht
 | some d=>exact ht.put (Uj hs ho hd) v
theorem Np {tm:Array Value} {i:Nat} {rest:List Nat} {k:List Item} {cs:List Frame} {o:Oper} (ho:ops[i]? = some o) (hw:Region.wanted o (yielded ops tm) = true)
  (hd:∀ c,o.op = .defer c→b.round = none) (W:World) :
  stepG C.P C.main (Conc.G (Fr b tm ds (.inRegion ops (i :: rest) :: k)) cs) W = stepG.apply C.P true (Fr b tm ds (.inRegion ops (i :: rest) :: k)) cs none (execOp (Fr b tm ds (.inRegion ops (i :: rest) :: k)).eval o) W:=by
 have h1:(Fr b tm ds (.inRegion ops (i :: rest) :: k)).oper? = some o:=by simp [Frame.oper?,Fr,ho]
 simp only [Conc.G,stepG,Fr,stepG.exec]
 simp only [Fr] at h1
 simp only [ho,Option.map_some,hw,Option.getD_some,if_true,stepG.oper,h1]
 split
 ·rename_i l c h2 h3
  exact absurd (hd c h3) (by rw [h2]; simp)
 ·rfl
theorem Abu {tm:Array Value} {i:Nat} {rest:List Nat} {k:List Item} {cs:List Frame} {o:Oper} (ho:ops[i]? = some o) (hw:Region.wanted o (yielded ops tm) = false) (W:World) :
  stepG C.P C.main (Conc.G (Fr b tm ds (.inRegion ops (i :: rest) :: k)) cs) W = .go (Conc.G ((Fr b tm ds (.inRegion ops (i :: rest) :: k)).finish undef) cs) W #[]:=by
 simp [Conc.G,stepG,Fr,stepG.exec,ho,hw]
end ops
end
section
open Go
section
variable {C:Ctx} {b:FB} {n:Nat} {ops:Array Oper} {Q:Env→List Deferred→Ro→Own→Prop} {e:Env} {ds:List Deferred} {ρ:Ro} {σ:Own}
/-- Where an operation's step leads. -/
def Ss (P:Program) (fr:Frame) (cs:List Frame):Next→Frame→List Frame→Prop
 | .value v,fr',cs'=>fr' = fr.finish v∧cs' = cs
 | .skip,fr',cs'=>fr' = fr.finish undef∧cs' = cs
 | .defer d,fr',cs'=>fr' = Frame.finish { fr with defers:=d :: fr.defers } undef∧cs' = cs
 | .enter f args,fr',cs'=>fr' = Frame.enter P f args .normal∧cs' = fr :: cs
 | .round l f tmps assign body,fr',cs'=>fr' = Frame.round l f tmps assign body .normal∧cs' = fr :: cs
 | _,_,_=>False
theorem Sx {P:Program} {fr:Frame} {cs:List Frame} {s:Sem Next} {W W':World} {nx:Next} {es:Array Event} (hk:fr.kind ≠ .early) (hf:∀ d r s k,fr.todo ≠ .call d true r s :: k)
    (hr:s.runT P W #[] = (.ok nx W',es)) (hn:∃ fr' cs',Ss P fr cs nx fr' cs') :
    ∃ fr' cs' es',stepG.apply P true fr cs none s W = .go (Conc.G fr' cs') W' es'∧Ss P fr cs nx fr' cs'∧∀ e ∈ es',e ∈ es:=by
  have hk':(fr.kind == CallKind.early) = false:=by cases h:fr.kind <;> simp_all <;> rfl
  have hkind:(match fr.todo with | .call _ true _ _ :: _=>CallKind.wrapped | _=>CallKind.normal) = CallKind.normal:=by
    split
    · rename_i h; exact absurd h (hf _ _ _ _)
    · rfl
  obtain ⟨fr',cs',h⟩:=hn
  cases nx <;> simp only [Ss] at h <;>
    (try (obtain ⟨rfl, rfl⟩ := h
          refine ⟨_,_,seen P fr.fn es,?_,⟨rfl,rfl⟩,fun e he=>Lh he⟩
          simp [stepG.apply,-Sem.runT_eq,hr,hk',hkind,GStep.after,Conc.G]))
theorem Uc {i:Nat} {rest:List Nat} (hs:Fu n ops = true) (hk:b.kind ≠ .early) (h:OpH C b ops i (Lq C b n ops rest Q) e ds ρ σ):Lq C b n ops (i :: rest) Q e ds ρ σ:=by
 intro tm k cs ht
 unfold OpH at h
 cases ho:ops[i]? with
 | none=>simp only [ho] at h
 | some o =>
  simp only [ho] at h
  have hev:=ht.eval b ds (.inRegion ops (i :: rest) :: k)
  split at h
  ·rename_i hw
   refine .step (fun fr' cs' σ'=>∃ nx,NextH C (fun v=>Lq C b n ops rest Q (Ja e o.dst v)) b.round ds ρ nx σ'∧Ss C.P (Fr b tm ds (.inRegion ops (i :: rest) :: k)) cs nx fr' cs') (fun W hsat=>?_) ?_
   ·obtain ⟨nx,σ',W',es,h1,h2,h3,h4⟩:=Rr _ σ _ W #[] h hsat
    have hd:∀ c,o.op = .defer c→b.round = none:=by
     intro c hc
     have hx:∃ d,nx = .defer d:=by
      have hexe:execOp (Af e) o = (resolve (Af e) c o.type).bind fun d=>pure (Next.defer d):=by
       unfold execOp; rw [hc]; rfl
      rw [hexe,Sem.runT_bind'] at h1
      split at h1
      ·rename_i a' w' es' _
       have:(Result.ok (Next.defer a') w',es') = (Result.ok nx W',es):=h1
       simp only [Prod.mk.injEq,Result.ok.injEq] at this
       exact ⟨a',this.1.1.symm⟩
      ·simp at h1
     obtain ⟨d,rfl⟩:=hx
     exact h2.1
    have hnx:∃ fr' cs',Ss C.P (Fr b tm ds (.inRegion ops (i :: rest) :: k)) cs nx fr' cs':=by
     cases nx <;> simp only [NextH] at h2 <;> exact ⟨_,_,rfl,rfl⟩
    obtain ⟨fr',cs',es',h5,h6,h7⟩:=Sx (s:=execOp (Af e) o) (by exact hk) (by simp [Fr]) h1 hnx
    refine ⟨fr',cs',W',es',σ',?_,h3,fun ev he=>(h4 ev (h7 ev he)).resolve_left (by simp),nx,h2,h6⟩
    rw [Np ho (by rw [Ij hs ht]; exact hw) hd,hev]
    exact h5
   ·rintro fr' cs' σ' ⟨nx,h2,h6⟩
    cases nx <;> simp only [NextH] at h2
    case value v =>
     obtain ⟨rfl,rfl⟩:=h6
     rw [Ju ho]
     exact h2 _ k _ (Jj hs ht ho v)
    case skip =>
     obtain ⟨rfl,rfl⟩:=h6
     rw [Ju ho]
     exact h2 _ k _ (Jj hs ht ho undef)
    case defer d =>
     obtain ⟨rfl,rfl⟩:=h6
     have:Frame.finish { Fr b tm ds (.inRegion ops (i :: rest) :: k) with defers:=d :: (Fr b tm ds (.inRegion ops (i :: rest) :: k)).defers } undef = (Fr b tm (d :: ds) (.inRegion ops (i :: rest) :: k)).finish undef:=rfl
     rw [this,Ju ho]
     exact h2.2 _ k _ (Jj hs ht ho undef)
    case enter f args =>
     obtain ⟨rfl,rfl⟩:=h6
     refine (h2 _ cs).bind ?_
     rintro _ _ ρ' σ'' ⟨v,rfl,rfl,hv⟩
     rw [Ju ho]
     exact hv _ k _ (Jj hs ht ho v)
    case round l f tmps assign body =>
     obtain ⟨rfl,rfl⟩:=h6
     refine (h2 _ cs).bind ?_
     rintro _ _ ρ' σ'' ⟨v,rfl,rfl,hv⟩
     rw [Ju ho]
     exact hv _ k _ (Jj hs ht ho v)
  ·rename_i hw
   refine Eh (fun W=>Abu ho (by rw [Ij hs ht]; simpa using hw) W) ?_
   rw [Ju ho]
   exact h _ k _ (Jj hs ht ho undef)
/-- A region in the text's order. -/
theorem Wp {id:Nat} {Q:Hu} (hs:Fu n ops = true) (hk:b.kind ≠ .early) (h:Lq C b n ops (List.range ops.size) (fun e ds ρ σ=>Q .normal e ds ρ σ) e ds ρ σ):WpC C b n (.region id ops false) Q e ds ρ σ:=by
 intro tm k cs ht
 refine Eh (fr':=Fr b tm ds (.inRegion ops (List.range ops.size) :: k)) (cs':=cs) (fun W=>by simp [Conc.G,stepG,stepG.exec,Fr]) ?_
 refine (h tm k cs ht).mono ?_
 rintro _ _ ρ' σ' ⟨rfl,tm',e',ds',h1,h2,rfl⟩
 exact ⟨rfl,.normal,tm',e',ds',k,h1,h2,rfl,rfl⟩
/-- It waits for each of these. -/
def Pg (ops:Array Oper) (pz:List Nat) (j:Nat):Bool :=
 match ops[j]? with
 | some o=>pz.all fun i=>o.after.any fun e=>Region.binds .any e && e.on == i
 | none=>false
theorem Ghost.same {ρ:Ro} {σ:Own}:Ghost ρ σ ρ σ:=⟨fun _ h=>h,fun _ o h=>⟨o,h⟩,fun _ h=>.inl h,fun _ _=>Iff.rfl,fun _ h=>h,fun _ h=>h⟩
/-- Whatever order is picked from here on. 'pz': the operations that may be taken first; behind each operation that does not wait for all of them,S holds. What is held may be told otherwise at every place. -/
def El (C:Ctx) (b:FB) (ops:Array Oper) (Q:Env→List Deferred→Ro→Own→Prop) (pz:List Nat) (S:Ro→Own→Prop):Nat→Array Bool→Env→List Deferred→Ro→Own→Prop
 | 0,listed,e,ds,ρ,σ=>Region.ready .any ops listed = []∧Q e ds ρ σ
 | fuel + 1,listed,e,ds,ρ,σ=>(∀ W,¬ Sat ρ σ W)∨∃ ρ₁ σ₁,Ghost ρ σ ρ₁ σ₁∧(S ρ σ→S ρ₁ σ₁)∧(Region.ready .any ops listed = []→Q e ds ρ₁ σ₁) ∧
  ∀ i ∈ Region.ready .any ops listed,OpH C b ops i (fun e' ds' ρ' σ'=>(Pg ops pz i = false→S ρ' σ')∧El C b ops Q pz S fuel (listed.setIfInBounds i true) e' ds' ρ' σ') e ds ρ₁ σ₁
theorem Rc {S:Cy} {fr:Frame} {cs:List Frame} (h:∀ W,¬ Sat ρ σ W):GoesH C S fr cs ρ σ :=
 .step (fun _ _ _=>False) (fun W hs=>absurd hs (h W)) (fun _ _ _ h=>h.elim)
theorem Aas {pz:List Nat} {S:Ro→Own→Prop} (hs:Fu n ops = true) (hk:b.kind ≠ .early):∀ (fuel t:Nat) (listed:Array Bool) (e:Env) (ds:List Deferred) (ρ:Ro) (σ:Own),El C b ops Q pz S fuel listed e ds ρ σ →
  Lq C b n ops (Region.linearise.go .any ops fuel t listed []) Q e ds ρ σ:=by
 intro fuel
 induction fuel with
 | zero=>intro t listed e ds ρ σ h; simpa [Region.linearise.go] using Xh h.2
 | succ fuel ih =>
  intro t listed e ds ρ σ h
  rcases h with h | ⟨ρ₁,σ₁,hg,_,h₀,h₁⟩
  ·exact fun tm k cs ht=>Rc h
  refine fun tm k cs ht=>.ghost hg ?_
  revert tm k cs
  change Lq C b n ops (Region.linearise.go .any ops (fuel + 1) t listed []) Q e ds ρ₁ σ₁
  simp only [Region.linearise.go]
  change Lq C b n ops (match (Region.ready .any ops listed)[t % (Region.ready .any ops listed).length]? with
   | some i=>Region.linearise.go .any ops fuel (t / (Region.ready .any ops listed).length) (listed.setIfInBounds i true) [i]
   | none=>[].reverse) Q e ds ρ₁ σ₁
  cases hi:(Region.ready .any ops listed)[t % (Region.ready .any ops listed).length]? with
  | none =>
   have hnil:Region.ready .any ops listed = []:=by
    cases hr:Region.ready .any ops listed with
    | nil=>rfl
    | cons x xs =>
     rw [hr] at hi
     have hlt:t % (x :: xs).length < (x :: xs).length:=Nat.mod_lt _ (by simp)
     simp at hi
     simp at hlt
     omega
   simpa using Xh (h₀ hnil)
  | some i =>
   simp only []
   rw [linearise_go_acc,List.reverse_singleton,List.singleton_append]
   exact Uc hs hk (OpH.mono (h₁ i (List.mem_of_getElem? hi)) fun e' ds' ρ' σ' h=>ih _ _ e' ds' ρ' σ' h.2)
/-- What is held,told otherwise. -/
theorem Aar {pz:List Nat} {S:Ro→Own→Prop} {fuel:Nat} {listed:Array Bool} {ρ':Ro} {σ':Own} (hg:Ghost ρ σ ρ' σ') (hS:S ρ σ→S ρ' σ') (h:El C b ops Q pz S (fuel + 1) listed e ds ρ' σ'):El C b ops Q pz S (fuel + 1) listed e ds ρ σ:=by
 rcases h with h | ⟨ρ₁,σ₁,hg1,h1,h2⟩
 ·exact .inl fun W hs=>h W (hg.sat W hs)
 ·refine .inr ⟨ρ₁,σ₁,⟨fun W hs=>hg1.sat W (hg.sat W hs),fun b o hb=>let ⟨o',ho'⟩:=hg1.objs b o hb; hg.objs b o' ho',fun b hb=>(hg1.dom b hb).elim (hg.dom b) fun ⟨o,ho⟩=>.inr (hg.objs b o ho),fun c vs=>(hg1.ends c vs).trans (hg.ends c vs),
   fun b hb=>hg.keys b (hg1.keys b hb),fun c hc=>hg.chans c (hg1.chans c hc)⟩,fun hs=>h1 (hS hs),h2⟩
/-- In this state operation o yields v wherever S holds,and nothing else happens. -/
def YieldsH (P:Program) (ops:Array Oper) (S:Ro→Own→Prop) (o:Oper) (v:Value) (e:Env):Prop :=
 (Bz ops o e = true∧∀ ρ σ,S ρ σ→wpS P ρ (execOp (Af e) o) σ (fun nx σ'=>nx = .value v∧σ' = σ)) ∨
 (Bz ops o e = false∧v = undef)
theorem Aer {e:Env} {dst:Option Tmp} {v:Value} {x:Operand} (h:∀ d,dst = some d→x ≠ .tmp d):Af (Ja e dst v) x = Af e x:=by
 cases dst with
 | none=>rfl
 | some d =>
  cases x with
  | tmp t =>
   have hne:t ≠ d:=fun h'=>h d rfl (h' ▸ rfl)
   simp [Af,Ja,upd,hne]
  | _=>rfl
theorem Ru (o:Oper) (hs:∀ cs b,o.op ≠ .select cs b) (e:Env) (dst:Option Tmp) (v:Value) (h:∀ d,dst = some d→d ∉ o.looksAt ops) :
  execOp (Af (Ja e dst v)) o = execOp (Af e) o :=
 execOp_congr o hs fun x hx=>Aer fun d hd hxd=>h d hd (by
  subst hxd
  exact List.mem_append_left _ (List.mem_filterMap.2 ⟨.tmp d,by simpa using hx,rfl⟩))
theorem Sd (o:Oper) (e:Env) (dst:Option Tmp) (v:Value) (h:∀ d,dst = some d→d ∉ o.looksAt ops):Bz ops o (Ja e dst v) = Bz ops o e:=by
 cases dst with
 | none=>rfl
 | some d =>
  unfold Bz
  cases hg:o.guard with
  | none=>rfl
  | some gw =>
   obtain ⟨g,want⟩:=gw
   have hy:Ht ops (Ja e (some d) v) g = Ht ops e g:=by
    unfold Ht
    cases ht:(ops[g]?).bind (·.dst) with
    | none=>rfl
    | some t =>
     have hne:t ≠ d:=fun h'=>h d rfl (by subst h'; simp [Oper.looksAt,hg,ht])
     simp [Ja,upd,hne]
   simp only [hy]
theorem Vx (e:Env) {x y:Option Tmp} (v u:Value) (h:∀ d,x = some d→y ≠ some d):Ja (Ja e x v) y u = Ja (Ja e y u) x v:=by
 cases x with
 | none=>rfl
 | some d =>
  cases y with
  | none=>rfl
  | some d' =>
   have hne:d ≠ d':=fun he=>h d rfl (he ▸ rfl)
   funext i
   simp only [Ja,upd]
   by_cases h1:i = d' <;> by_cases h2:i = d <;> simp_all
theorem Akg {S:Ro→Own→Prop} {j:Nat} {oi oj:Oper} {v:Value} (hj:ops[j]? = some oj) (hap:oi.apart ops oj = true)
  (hsi:∀ cs b,oi.op ≠ .select cs b) (hsj:∀ cs b,oj.op ≠ .select cs b) {K:Env→List Deferred→Ro→Own→Prop}
  (hy:YieldsH C.P ops S oi v e) (h:OpH C b ops j K (Ja e oi.dst v) ds ρ σ) :
  OpH C b ops j (fun e' ds' ρ' σ'=>YieldsH C.P ops S oi v e'∧K (Ja e' oi.dst v) ds' ρ' σ') e ds ρ σ:=by
 obtain ⟨h1,h2,h3⟩:=Oper.apart_spec hap
 have keep:∀ u,YieldsH C.P ops S oi v (Ja e oj.dst u):=fun u=>by
  unfold YieldsH at *
  rw [Ru oi hsi e oj.dst u h3,Sd oi e oj.dst u h3]
  exact hy
 unfold OpH at *
 simp only [hj] at *
 rw [Sd oj e oi.dst v h1] at h
 split
 ·rename_i hw
  rw [if_pos hw,Ru oj hsj e oi.dst v h1] at h
  refine Eu (fun nx σ' hn=>hn.mono fun u ds ρ σ hh=>⟨keep u,?_⟩) _ _ h
  rw [← Vx e v u h2]; exact hh
 ·rename_i hw
  rw [if_neg hw] at h
  exact ⟨keep _,by rw [← Vx e v undef h2]; exact h⟩
theorem YieldsH.opH {S:Ro→Own→Prop} {i:Nat} {o:Oper} {v:Value} (hi:ops[i]? = some o) (hy:YieldsH C.P ops S o v e) (hS:S ρ σ) {K:Env→List Deferred→Ro→Own→Prop} (h:K (Ja e o.dst v) ds ρ σ):OpH C b ops i K e ds ρ σ:=by
 unfold OpH
 simp only [hi]
 rcases hy with ⟨hw,hv⟩ | ⟨hw,rfl⟩
 ·rw [if_pos hw]
  exact Eu (by rintro nx σ' ⟨rfl,rfl⟩; exact h) _ _ (hv ρ σ hS)
 ·rw [if_neg (by simp [hw])]; exact h
/-- An operation that may come up now may be taken first. -/
theorem Aaq {pz:List Nat} {S:Ro→Own→Prop} {i:Nat} {oi:Oper} {v:Value} (hi:ops[i]? = some oi) (hp:i ∈ pz) (hsel:∀ (j:Nat) (o:Oper) cs b,ops[j]? = some o→o.op ≠ .select cs b) :
  ∀ (fuel:Nat) (listed:Array Bool) (e:Env) (ds:List Deferred) (ρ:Ro) (σ:Own),
   (∀ j oj,ops[j]? = some oj→j ≠ i→listed.getD j true = false→(∀ e ∈ oj.after,Region.binds .any e = true→e.on ≠ i)→oi.apart ops oj = true) →
   i ∈ Region.ready .any ops listed→YieldsH C.P ops S oi v e→S ρ σ →
   El C b ops Q pz S fuel (listed.setIfInBounds i true) (Ja e oi.dst v) ds ρ σ→El C b ops Q pz S (fuel + 1) listed e ds ρ σ:=by
 intro fuel
 induction fuel with
 | zero =>
  intro listed e ds ρ σ _ hr hy hS H
  refine .inr ⟨ρ,σ,.same,id,fun h=>(by rw [h] at hr; cases hr),fun j hj=>?_⟩
  by_cases hji:j = i
  ·subst hji; exact hy.opH hi hS ⟨fun _=>hS,H⟩
  ·have:=ready_mono hj hji
   rw [H.1] at this
   cases this
 | succ fuel ih =>
  intro listed e ds ρ σ hfree hr hy hS H
  rcases H with H | ⟨ρ₁,σ₁,hg,hSS,H0,H2⟩
  ·exact .inl H
  have hS₁:=hSS hS
  refine .inr ⟨ρ₁,σ₁,hg,hSS,fun h=>(by rw [h] at hr; cases hr),fun j hj=>?_⟩
  by_cases hji:j = i
  ·subst hji; exact hy.opH hi hS₁ ⟨fun _=>hS₁,.inr ⟨ρ₁,σ₁,.same,id,H0,H2⟩⟩
  ·have h1:=H2 j (ready_mono hj hji)
   obtain ⟨hjun,oj,hoj,hall⟩:=mem_ready.1 hj
   have hnot:∀ e ∈ oj.after,Region.binds .any e = true→e.on ≠ i:=fun e he hb heq=>by
    have h1:=hall e he hb
    have h0:=(mem_ready.1 hr).1
    rw [heq] at h1
    rcases Nat.lt_or_ge i listed.size with h' | h'
    ·simp [h'] at h0 h1; rw [h0] at h1; cases h1
    ·simp [Array.getElem?_eq_none h'] at h1
   have hlate:Pg ops pz j = false:=by
    cases hl:Pg ops pz j with
    | false=>rfl
    | true =>
     simp only [Pg,hoj,List.all_eq_true] at hl
     obtain ⟨e,he,hb⟩:=Array.any_eq_true'.1 (hl i hp)
     simp only [Bool.and_eq_true,beq_iff_eq] at hb
     exact absurd hb.2 (hnot e he hb.1)
   have h2:=Akg hoj (hfree j oj hoj hji hjun hnot) (fun cs b=>hsel i oi cs b hi) (fun cs b=>hsel j oj cs b hoj) hy h1
   have hfree':∀ k ok,ops[k]? = some ok→k ≠ i→(listed.setIfInBounds j true).getD k true = false →
     (∀ e ∈ ok.after,Region.binds .any e = true→e.on ≠ i)→oi.apart ops ok = true:=fun k ok hk hki hun hno=>by
    refine hfree k ok hk hki ?_ hno
    by_cases hjk:j = k
    ·subst hjk; exact hjun
    ·rw [getD_set_ne true hjk] at hun; exact hun
   refine OpH.mono h2 fun e' ds' ρ' σ' h3=>⟨fun _=>h3.2.1 hlate,ih (listed.setIfInBounds j true) e' ds' ρ' σ' hfree' (ready_mono hr (Ne.symm hji)) h3.1 (h3.2.1 hlate) ?_⟩
   rw [Array.setIfInBounds_comm _ _ hji]
   exact h3.2.2
/-- Take number i first. -/
theorem Vm {pz:List Nat} {S:Ro→Own→Prop} {i:Nat} {oi:Oper} {v:Value} {fuel:Nat} {listed:Array Bool} (hi:ops[i]? = some oi) (hp:pz.contains i = true)
  (hs:Region.noSelect ops = true) (hf:Region.free .any ops listed i = true) (hr:(Region.ready .any ops listed).contains i = true)
  (hy:YieldsH C.P ops S oi v e) (hS:S ρ σ) (h:El C b ops Q pz S fuel (listed.setIfInBounds i true) (Ja e oi.dst v) ds ρ σ):El C b ops Q pz S (fuel + 1) listed e ds ρ σ :=
 Aaq hi (by simpa using hp) (Region.noSelect_spec hs) fuel listed e ds ρ σ (Region.free_spec hi hf) (by simpa using hr) hy hS h
/-- Whichever of those that may come up comes up. -/
theorem Mz {pz:List Nat} {S:Ro→Own→Prop} {rs:List Nat} {fuel:Nat} {listed:Array Bool} (hr:Region.ready .any ops listed = rs) (hne:rs ≠ [])
  (h:∀ i ∈ rs,OpH C b ops i (fun e' ds' ρ' σ'=>(Pg ops pz i = false→S ρ' σ')∧El C b ops Q pz S fuel (listed.setIfInBounds i true) e' ds' ρ' σ') e ds ρ σ):El C b ops Q pz S (fuel + 1) listed e ds ρ σ :=
 .inr ⟨ρ,σ,.same,id,fun h0=>absurd (hr ▸ h0) hne,hr ▸ h⟩
/-- All have come up. -/
theorem Aeb {pz:List Nat} {S:Ro→Own→Prop} {listed:Array Bool} (hr:Region.ready .any ops listed = []) (h:Q e ds ρ σ):∀ fuel,El C b ops Q pz S fuel listed e ds ρ σ
 | 0=>⟨hr,h⟩
 | _ + 1=>.inr ⟨ρ,σ,.same,id,fun _=>h,by rw [hr]; simp⟩
/-- The beginning. -/
theorem Vk {id:Nat} {Q:Hu} (pz:List Nat) (S:Ro→Own→Prop) (hm:C.P.follows .mixedOrders = true) (hs:Fu n ops = true) (hk:b.kind ≠ .early)
  (h:El C b ops (fun e ds ρ σ=>Q .normal e ds ρ σ) pz S ops.size (Array.replicate ops.size false) e ds ρ σ):WpC C b n (.region id ops true) Q e ds ρ σ:=by
 intro tm k cs ht
 refine .step (fun fr' cs' σ'=>∃ t,fr' = Fr b tm ds (.inRegion ops (Region.linearise .any ops t) :: k)∧cs' = cs∧σ' = σ) (fun W hsat=>?_) ?_
 ·refine ⟨_,cs,{ W with drawn:=W.drawn + 1 },#[],σ,?_,?_,by simp,W.tape W.drawn (.order b.fn id),rfl,rfl,rfl⟩
  ·simp [Conc.G,stepG,stepG.exec,Fr,choose,Sem.run,Question.forced,Question.cut,Region.schedule,hm]
  ·have:=Trans.refl hsat
   exact ⟨⟨hsat.ro,hsat.own,hsat.nd,hsat.dj⟩,this.size,this.keys,this.kept,this.fresh,this.frame,this.ends,this.chans,this.chansKept,rfl,rfl,rfl⟩
 ·rintro _ _ _ ⟨t,rfl,rfl,rfl⟩
  refine (Aas hs hk ops.size t _ e ds ρ _ h tm k _ ht).mono ?_
  rintro _ _ ρ' σ' ⟨rfl,tm',e',ds',h1,h2,rfl⟩
  exact ⟨rfl,.normal,tm',e',ds',k,h1,h2,rfl,rfl⟩
end
end
section
open Go
theorem Ghost.perm {ρ:Ro} {σ σ':Own} (h:σ.Perm σ'):Ghost ρ σ ρ σ' :=
  ⟨fun W hs => ⟨hs.ro, fun p hp => hs.own p (h.mem_iff.2 hp), (h.map Prod.fst).nodup_iff.1 hs.nd, fun b hb => hs.dj b ((h.map Prod.fst).mem_iff.2 hb)⟩,
   fun b o hb=>⟨o,h.mem_iff.2 hb⟩,fun _ h=>.inl h,fun _ _=>h.mem_iff.symm,fun b hb=>(h.map Prod.fst).mem_iff.2 hb,fun c hc=>h.mem_iff.2 hc⟩
/-- An owned block is forgotten. -/
theorem Ghost.drop {ρ:Ro} {σ:Own} {b:Nat} {o:Obj}:Ghost ρ ((b,.obj o) :: σ) ρ σ :=
  ⟨fun W hs => ⟨hs.ro, fun p hp => hs.own p (List.mem_cons_of_mem _ hp), (List.nodup_cons.1 hs.nd).2, fun b hb => hs.dj b (List.mem_cons_of_mem _ hb)⟩,
   fun b o hb=>⟨o,List.mem_cons_of_mem _ hb⟩,fun _ h=>.inl h,fun _ _=>by simp,fun b hb=>List.mem_cons_of_mem _ hb,fun c hc=>List.mem_cons_of_mem _ hc⟩
def Ro.add (ρ:Ro) (b:Nat) (o:Obj):Ro:=fun k=>if k = b then some o else ρ k
theorem Ghost.trans {ρ ρ' ρ'':Ro} {σ σ' σ'':Own} (h:Ghost ρ σ ρ' σ') (h':Ghost ρ' σ' ρ'' σ''):Ghost ρ σ ρ'' σ'' :=
  ⟨fun W hs => h'.sat W (h.sat W hs), fun b o hb => let ⟨o', ho'⟩ := h'.objs b o hb; h.objs b o' ho',
   fun b hb=>(h'.dom b hb).elim (h.dom b) fun ⟨o,ho⟩=>.inr (h.objs b o ho),fun c vs=>(h'.ends c vs).trans (h.ends c vs),fun b hb=>h.keys b (h'.keys b hb),fun c hc=>h.chans c (h'.chans c hc)⟩
theorem Ghost.refl {ρ:Ro} {σ:Own}:Ghost ρ σ ρ σ:=.perm (.refl _)
/-- What more may be read: nothing that could be read is lost. -/
def Ro.le (ρ ρ':Ro):Prop:=∀ b o,ρ b = some o→ρ' b = some o
theorem Ro.le.refl {ρ:Ro}:Ro.le ρ ρ:=fun _ _ h=>h
theorem Ro.le.trans {ρ ρ' ρ'':Ro} (h:Ro.le ρ ρ') (h':Ro.le ρ' ρ''):Ro.le ρ ρ'':=fun b o hb=>h' b o (h b o hb)
/-- What may be read may be forgotten. -/
theorem Ghost.forget {ρ ρ':Ro} {σ:Own} (h:Ro.le ρ' ρ):Ghost ρ σ ρ' σ :=
  ⟨fun W hs=>⟨fun b o hb=>hs.ro b o (h b o hb),hs.own,hs.nd,fun b hb=>by
      cases hr:ρ' b with
      | none=>rfl
      | some o => have := hs.dj b hb; rw [h b o hr] at this; cases this⟩,
   fun b o hb => ⟨o, hb⟩, fun b hb => by
      obtain ⟨o,ho⟩:=Option.isSome_iff_exists.1 hb
      exact .inl (by rw [h b o ho]; rfl),fun _ _=>Iff.rfl,fun _ h=>h,fun _ h=>h⟩
theorem Ghost.freeze {ρ:Ro} {σ:Own} {b:Nat} {o:Obj} (hb:ρ b = none):Ghost ρ ((b,.obj o) :: σ) (ρ.add b o) σ:=by
 refine ⟨fun W hs=>?_,fun k ok hk=>⟨ok,List.mem_cons_of_mem _ hk⟩,fun k hk=>?_,fun _ _=>by simp,fun k hk=>List.mem_cons_of_mem _ hk,fun k hk=>List.mem_cons_of_mem _ hk⟩
 ·have hnd:=List.nodup_cons.1 hs.nd
  refine ⟨fun k ok hk=>?_,fun p hp=>hs.own p (List.mem_cons_of_mem _ hp),hnd.2,fun k hk=>?_⟩
  ·unfold Ro.add at hk
   split at hk
   ·rename_i e; subst e; cases hk; exact hs.own _ (List.mem_cons_self ..)
   ·exact hs.ro k ok hk
  ·unfold Ro.add
   rw [if_neg (fun (e:k = b)=>hnd.1 (by rw [e] at hk; exact hk))]
   exact hs.dj k (List.mem_cons_of_mem _ hk)
 ·unfold Ro.add at hk
  split at hk
  ·rename_i e; subst e; exact .inr ⟨o,List.mem_cons_self ..⟩
  ·exact .inl hk
/-- From now on the block is read alone,by whoever. -/
theorem Rv {C:Ctx} {S:Cy} {fr:Frame} {cs:List Frame} {ρ:Ro} {σ:Own} {b:Nat} {o:Obj} (h:∀ ρ',Ro.le ρ ρ'→ρ' b = some o→GoesH C S fr cs ρ' σ):GoesH C S fr cs ρ ((b,.obj o) :: σ):=by
 by_cases hb:ρ b = none
 ·exact .ghost (.freeze hb) (h _ (fun x ox hx=>by unfold Ro.add; rw [if_neg (fun e=>by rw [e,hb] at hx; cases hx)]; exact hx) (by simp [Ro.add]))
 ·exact Rc fun W hs=>absurd (hs.dj b (List.mem_cons_self ..)) hb
section
variable {C:Ctx} {b:FB} {n:Nat} {Q:Hu} {e:Env} {ds:List Deferred} {ρ ρ':Ro} {σ σ':Own}
theorem Wo {c:Code} {k:Nat} {o:Obj} (h:∀ ρ',Ro.le ρ ρ'→ρ' k = some o→WpC C b n c Q e ds ρ' σ):WpC C b n c Q e ds ρ ((k,.obj o) :: σ) :=
 fun tm kk cs ht=>Rv fun ρ' h1 h2=>h ρ' h1 h2 tm kk cs ht
theorem Abn {ops:Array Oper} {todo:List Nat} {Q:Env→List Deferred→Ro→Own→Prop} {k:Nat} {o:Obj} (h:∀ ρ',Ro.le ρ ρ'→ρ' k = some o→Lq C b n ops todo Q e ds ρ' σ):Lq C b n ops todo Q e ds ρ ((k,.obj o) :: σ) :=
 fun tm kk cs ht=>Rv fun ρ' h1 h2=>h ρ' h1 h2 tm kk cs ht
theorem Afg {ops:Array Oper} {todo:List Nat} {Q:Env→List Deferred→Ro→Own→Prop} (hg:Ghost ρ σ ρ' σ') (h:Lq C b n ops todo Q e ds ρ' σ'):Lq C b n ops todo Q e ds ρ σ :=
 fun tm k cs ht=>.ghost hg (h tm k cs ht)
def Hp (fn:Func) (e:Env):Sem Value:=do
 let vs ← fn.results.mapM fun
  | .tmp t=>pure (e t)
  | .cell a t=>do loadVar t (← asAddr (e a))
 pure (if h:vs.size = 1 then vs[0] else .tuple vs)
theorem Abq {fn:Func} {tm:Array Value} (h:EnvOf n tm e):results fn tm = Hp fn e:=by
 unfold results Hp
 congr 1
 congr 1
 funext r
 cases r <;> simp only [h.2]
/-- What was deferred (marks of ranges over functions alone) is taken,the results are read. -/
def Aki (C:Ctx) (fn:Func) (R:Value→Ro→Own→Prop) (e:Env) (ρ:Ro):List Deferred→Own→Prop
 | [],σ=>wpS C.P ρ (Hp fn e) σ (fun v σ'=>R v ρ σ')
 | d :: ds,σ=>∃ r i,d.target = .collected r∧σ[i]? = some (r,.obj (.deferred (some [])))∧Aki C fn R e ρ ds (σ.set i (r,.obj (.deferred none)))
theorem Ajr {P:Program} {r i:Nat} {σ:Own} {Q:List Deferred→Own→Prop} (hi:σ[i]? = some (r,.obj (.deferred (some [])))) (h:Q [] (σ.set i (r,.obj (.deferred none)))):wpS P ρ (Instr.takeDeferred r) σ Q:=by
 show wpS P ρ ((getObj r).bind _) σ Q
 rw [Ad]
 exact ⟨_,.inr (List.mem_of_getElem? hi),rfl,rfl,i,_,hi,rfl,h⟩
theorem Ahz {S:Cy} {fn:Func} {R:Value→Ro→Own→Prop} {tm:Array Value} {todo:List Item} {c:Frame} {cs:List Frame} (hf:C.P.funcs[b.fn]? = some fn) (hk:b.kind = .normal) (ht:EnvOf n tm e)
  (h:Aki C fn R e ρ ds σ) (hS:∀ v ρ' σ',R v ρ' σ'→GoesH C S (Frame.finish c v) cs ρ' σ'):GoesH C S { Fr b tm ds todo with mode:=.returning } (c :: cs) ρ σ:=by
 induction ds generalizing σ with
 | nil =>
  refine Lw (f:=fun v=>(Frame.finish c v,cs)) (s:=Hp fn e) (Q:=fun v σ'=>R v ρ σ') (fun W v W' es hr=>?_) h fun v σ' hv=>hS v ρ σ' hv
  rw [← Abq ht] at hr
  exact ⟨seen C.P b.fn es,by simp [Conc.G,stepG,Fr,unwind,hf,-Sem.runT_eq,hr,doReturn,hk,GStep.after],fun e he=>Lh he⟩
 | cons d ds ih =>
  obtain ⟨r,i,hd,hi,h⟩:=h
  obtain ⟨tgt,args⟩:=d
  simp only at hd; subst hd
  refine Lw (f:=fun (l:List Deferred)=>({ Fr b tm (l ++ ds) todo with mode:=.returning },c :: cs)) (s:=Instr.takeDeferred r) (Q:=fun l σ'=>l = []∧Aki C fn R e ρ ds σ') (fun W l W' es hr=>?_) (Ajr hi ⟨rfl,h⟩) ?_
  ·exact ⟨seen C.P b.fn es,by simp [Conc.G,stepG,Fr,unwind,-Sem.runT_eq,hr,GStep.after],fun e he=>Lh he⟩
  ·rintro l σ' ⟨rfl,h⟩
   exact ih h
/-- The frame's first state: the arguments lie in the first slots. -/
def Pn (args:List Value):Env:=fun i=>args.getD i undef
theorem Tn {args:List Value} (h:args.length ≤ n):EnvOf n (args.toArray ++ Array.replicate (n - args.toArray.size) undef) (Pn args):=by
 refine ⟨by simp; omega,fun i=>?_⟩
 unfold Pn
 rw [Array.getD_eq_getD_getElem?,List.getD_eq_getElem?_getD,Array.getElem?_append]
 simp only [List.size_toArray,List.getElem?_toArray]
 split
 ·rfl
 ·rename_i hlt
  rw [List.getElem?_eq_none (by omega),Array.getElem?_replicate]
  split <;> rfl
theorem Oy {f:FuncId} {fn:Func} {c:Code} {args:List Value} {R:Value→Ro→Own→Prop} (hf:C.P.funcs[f]? = some fn) (hc:fn.body = some c) (hn:fn.ntmps = n) (ha:args.length ≤ n)
  (h:WpC C ⟨f,.normal,none⟩ n c (fun ex e ds ρ' σ'=>(∀ id,ex ≠ .exit id)∧Aki C fn R e ρ' ds σ') (Pn args) [] ρ σ):CallsH C f args.toArray ρ σ R:=by
 intro c' cs
 have e1:Frame.enter C.P f args.toArray .normal = Fr ⟨f,.normal,none⟩ (args.toArray ++ Array.replicate (n - args.toArray.size) undef) [] [.code c]:=by
  simp [Frame.enter,hf,hc,hn,Fr]
 rw [e1]
 refine (h _ [] (c' :: cs) (Tn ha)).bind ?_
 rintro _ _ ρ' σ' ⟨rfl,ex,tm',e',ds',todo,h1,⟨h2,h3⟩,h4,rfl⟩
 have fin:∀ todo,GoesH C (fun fr cs' ρ' σ'=>∃ v,fr = Frame.finish c' v∧cs' = cs∧R v ρ' σ') { Fr ⟨f,.normal,none⟩ tm' ds' todo with mode:=.returning } (c' :: cs) ρ' σ' :=
  fun todo=>Ahz (b:=⟨f,.normal,none⟩) hf rfl h1 h3 fun v ρ'' σ'' hv=>.stop ⟨v,rfl,rfl,hv⟩
 cases ex with
 | normal =>
  cases h4
  exact Eh (fr':={ Fr ⟨f,.normal,none⟩ tm' ds' [] with mode:=.returning }) (cs':=c' :: cs) (fun W=>by simp [Conc.G,stepG,stepG.exec,Fr]) (fin _)
 | exit id=>exact absurd rfl (h2 id)
 | ret =>
  obtain ⟨pre,rfl⟩:=h4
  exact Eh (fr':={ Fr ⟨f,.normal,none⟩ tm' ds' (.code .ret :: (pre ++ [])) with mode:=.returning }) (cs':=c' :: cs) (fun W=>by simp [Conc.G,stepG,stepG.exec,Fr]) (fin _)
def Pf:Ex→Option Code
 | .normal=>none
 | .exit id=>some (.exit id)
 | .ret=>some .ret
theorem Xs {P:Program} {l i:Nat} {r:Loop} {σ:Own} {Q:Value→Own→Prop} {j:Option Code} (hi:σ[i]? = some (l,.obj (.loop r)))
  (h:Q (.bool j.isNone) (σ.set i (l,.obj (.loop { r with state:=if j.isNone then .ready else .done,pending:=j })))):wpS P ρ (Instr.endRound l j) σ Q:=by
 show wpS P ρ ((Instr.getLoop l).bind _) σ Q
 rw [Ad]
 show wpS P ρ ((getObj l).bind _) σ _
 rw [Ad]
 exact ⟨_,.inr (List.mem_of_getElem? hi),rfl,rfl,i,_,hi,rfl,h⟩
theorem Ut {P:Program} {l i:Nat} {r:Loop} {σ:Own} {Q:Unit→Own→Prop} (hi:σ[i]? = some (l,.obj (.loop r))) (hr:r.state = .ready)
  (h:Q () (σ.set i (l,.obj (.loop { r with state:=.busy })))):wpS P ρ (Instr.beginRound l) σ Q:=by
 show wpS P ρ ((Instr.getLoop l).bind _) σ Q
 rw [Ad]
 show wpS P ρ ((getObj l).bind _) σ _
 rw [Ad]
 refine ⟨_,.inr (List.mem_of_getElem? hi),rfl,?_⟩
 show wpS P ρ ((setObj l _).bind _) σ _
 rw [Ad]
 refine ⟨rfl,i,_,hi,rfl,?_⟩
 simp only [hr]
 exact h
theorem Abr {l:Nat} {f:FuncId} {tm:Array Value} {assign body:Code} {R:Value→Ro→Own→Prop} (ht:EnvOf n tm e)
  (h:WpC C ⟨f,.normal,some l⟩ n assign (fun ex e1 ds1 ρ1 σ1=>ex = .normal∧ds1 = []∧∃ i r,σ1[i]? = some (l,.obj (.loop r))∧r.state = .ready ∧
   WpC C ⟨f,.normal,some l⟩ n body (fun ex _ _ ρ2 σ2=>∃ i2 r2,σ2[i2]? = some (l,.obj (.loop r2)) ∧
    R (.bool (Pf ex).isNone) ρ2 (σ2.set i2 (l,.obj (.loop { r2 with state:=if (Pf ex).isNone then .ready else .done,pending:=Pf ex })))) e1 [] ρ1 (σ1.set i (l,.obj (.loop { r with state:=.busy })))) e [] ρ σ) :
  RoundH C l f tm assign body ρ σ R:=by
 intro c' cs
 have e1:Frame.round l f tm assign body .normal = Fr ⟨f,.normal,some l⟩ tm [] [.code assign,.beginRound,.code body]:=rfl
 rw [e1]
 refine (h tm [.beginRound,.code body] (c' :: cs) ht).bind ?_
 rintro _ _ ρ1 σ1 ⟨rfl,ex,tm1,e1,ds1,todo,ht1,⟨rfl,rfl,i,r,hi,hr,hb⟩,h4,rfl⟩
 cases h4
 refine Lw (f:=fun (_:Unit)=>(Fr ⟨f,.normal,some l⟩ tm1 [] [.code body],c' :: cs)) (s:=Instr.beginRound l) (Q:=fun _ σ'=>σ' = σ1.set i (l,.obj (.loop { r with state:=.busy }))) (fun W u W' es hrun=>?_) (Ut hi hr rfl) ?_
 ·refine ⟨seen C.P f es,?_,fun e he=>Lh he⟩
  have hrun':(do (some l).elim (stuck "beginRound: no round") Instr.beginRound; pure Next.skip:Sem Next).runT C.P W #[] = (.ok Next.skip W',es):=by
   show ((Instr.beginRound l).bind fun _=>Sem.pure Next.skip).runT C.P W #[] = _
   rw [Sem.runT_bind',hrun]; rfl
  simp only [Conc.G,stepG,stepG.exec,Fr,stepG.apply,if_true,hrun',GStep.after]
  simp only [Frame.finish]
  rfl
 rintro u σ' rfl
 refine (hb tm1 [] (c' :: cs) ht1).bind ?_
 rintro _ _ ρ2 σ2 ⟨rfl,ex,tm2,e2,ds2,todo,ht2,⟨i2,r2,hi2,hR⟩,h4,rfl⟩
 refine Lw (f:=fun v=>(Frame.finish c' v,cs)) (s:=Instr.endRound l (Pf ex)) (Q:=fun v σ'=>R v ρ2 σ') (fun W v W' es hrun=>?_) (Xs hi2 hR) fun v σ' hv=>.stop ⟨v,rfl,rfl,hv⟩
 refine ⟨seen C.P f es,?_,fun e he=>Lh he⟩
 cases ex with
 | normal =>
  cases h4
  simp only [Pf] at hrun
  simp [Conc.G,stepG,stepG.exec,Fr,-Sem.runT_eq,hrun,doReturn,GStep.after]
 | exit id =>
  obtain ⟨pre,hp,rfl⟩:=h4
  have hno:exitTo id (pre ++ []) = none:=by rw [Mj hp]; rfl
  simp only [Pf] at hrun
  simp only [List.append_nil] at hno
  simp [Conc.G,stepG,stepG.exec,Fr,-Sem.runT_eq,hrun,hno,doReturn,GStep.after]
 | ret =>
  obtain ⟨pre,rfl⟩:=h4
  simp only [Pf] at hrun
  simp [Conc.G,stepG,stepG.exec,Fr,-Sem.runT_eq,hrun,doReturn,GStep.after]
end
abbrev Bri:=@Ghost.drop
abbrev Brj:=@Ghost.forget
abbrev Brk:=@Ghost.perm
abbrev Brm:=@Ro.le.refl
abbrev Brn:=@Ro.le.trans
end
section
open Go
/-- The rest of a region in the text's order. -/
def Ey (C:Ctx) (b:FB) (n:Nat) (l₀ rest:List Oper) (Q:Env→List Deferred→Ro→Own→Prop) (e:Env) (ds:List Deferred) (ρ:Ro) (σ:Own):Prop :=
 ∀ pre,l₀ = pre ++ rest→Fu n l₀.toArray = true→b.kind ≠ .early→Lq C b n l₀.toArray (List.range' pre.length rest.length) Q e ds ρ σ
section
variable {C:Ctx} {b:FB} {n:Nat} {l₀ rest:List Oper} {Q:Env→List Deferred→Ro→Own→Prop} {e:Env} {ds:List Deferred} {ρ:Ro} {σ:Own}
def Nm (n:Nat):List Oper→Bool
 | []=>true
 | o :: l=>(match o.dst with | some d=>Nat.ble (d + 1) n | none=>true) && Nm n l
theorem Ih {n:Nat}:∀ {l:List Oper},Nm n l = true→Fu n l.toArray = true:=by
 intro l h
 unfold Fu
 rw [List.all_toArray,List.all_eq_true]
 induction l with
 | nil=>simp
 | cons o l ih =>
  simp only [Nm,Bool.and_eq_true] at h
  intro x hx
  rcases List.mem_cons.1 hx with rfl | hx
  ·cases hd:x.dst with
   | none=>rfl
   | some d=>have:=h.1; rw [hd] at this; exact decide_eq_true (Nat.le_of_ble_eq_true this)
  ·exact ih h.2 x hx
theorem Ag {id:Nat} {Q:Hu} (hs:Nm n l₀ = true) (hk:b.kind = .normal) (h:Ey C b n l₀ l₀ (fun e ds ρ σ=>Q .normal e ds ρ σ) e ds ρ σ):WpC C b n (.region id l₀.toArray false) Q e ds ρ σ:=by
 have hk':b.kind ≠ .early:=by rw [hk]; simp
 refine Wp (Ih hs) hk' ?_
 have:=h [] rfl (Ih hs) hk'
 simpa [List.range_eq_range'] using this
theorem Ac (h:Q e ds ρ σ):Ey C b n l₀ [] Q e ds ρ σ:=fun _ _ _ _=>Xh h
theorem Apt {o:Oper} (h:(if Bz l₀.toArray o e = true then wpS C.P ρ (execOp (Af e) o) σ (NextH C (fun v=>Ey C b n l₀ rest Q (Ja e o.dst v)) b.round ds ρ) else Ey C b n l₀ rest Q (Ja e o.dst undef) ds ρ σ)) :
  Ey C b n l₀ (o :: rest) Q e ds ρ σ:=by
 intro pre hpre hs hk
 have ho:l₀.toArray[pre.length]? = some o:=by subst hpre; simp
 rw [List.length_cons,List.range'_succ]
 have hrest:∀ e ds ρ σ,Ey C b n l₀ rest Q e ds ρ σ→Lq C b n l₀.toArray (List.range' (pre.length + 1) rest.length) Q e ds ρ σ:=fun e ds ρ σ h'=>by
  have:=h' (pre ++ [o]) (by rw [hpre]; simp) hs hk
  simpa using this
 refine Uc hs hk ?_
 unfold OpH
 simp only [ho]
 split
 ·rename_i hw
  rw [if_pos hw] at h
  exact Eu (fun nx σ' hn=>hn.mono fun v ds ρ σ hh=>hrest _ _ _ _ hh) _ _ h
 ·rename_i hw
  rw [if_neg hw] at h
  exact hrest _ _ _ _ h
/-- An operation whose guard fails. -/
theorem Ap {o:Oper} (hw:Bz l₀.toArray o e = false) (h:Ey C b n l₀ rest Q (Ja e o.dst undef) ds ρ σ):Ey C b n l₀ (o :: rest) Q e ds ρ σ :=
 Apt (by rw [if_neg (by simp [hw])]; exact h)
theorem Add {o:Oper} (hw:Bz l₀.toArray o e = true) (h:wpS C.P ρ (execOp (Af e) o) σ (NextH C (fun v=>Ey C b n l₀ rest Q (Ja e o.dst v)) b.round ds ρ)):Ey C b n l₀ (o :: rest) Q e ds ρ σ :=
 Apt (by rw [if_pos hw]; exact h)
theorem Bj {ρ':Ro} {σ':Own} (hg:Ghost ρ σ ρ' σ') (h:Ey C b n l₀ rest Q e ds ρ' σ'):Ey C b n l₀ rest Q e ds ρ σ:=fun pre h1 h2 h3=>Afg hg (h pre h1 h2 h3)
theorem Tu {k:Nat} {o:Obj} (h:∀ ρ',Ro.le ρ ρ'→ρ' k = some o→Ey C b n l₀ rest Q e ds ρ' σ):Ey C b n l₀ rest Q e ds ρ ((k,.obj o) :: σ) :=
 fun pre h1 h2 h3=>Abn fun ρ' h4 h5=>h ρ' h4 h5 pre h1 h2 h3
/-- A guard that holds,or not. -/
theorem Ar {j:Nat} {w x:Bool} {d:Nat} {o:Oper} (hg:o.guard = some (j,w)) (hd:(l₀.toArray[j]?).bind (·.dst) = some d) (he:e d = .bool x) (hx:x = w):Bz l₀.toArray o e = true:=by
 subst hx
 unfold Bz Ht
 simp only [hg,hd,he]
 simp
theorem Bl {j:Nat} {w x:Bool} {d:Nat} {o:Oper} (hg:o.guard = some (j,w)) (hd:(l₀.toArray[j]?).bind (·.dst) = some d) (he:e d = .bool x) (hx:x = !w):Bz l₀.toArray o e = false:=by
 subst hx
 unfold Bz Ht
 simp only [hg,hd,he]
 cases w <;> rfl
def gV (l:List Oper) (o:Oper) (e:Env):Option (Bool × Bool):=match o.guard with
 | some (j,w)=>match (l.toArray[j]?).bind (·.dst) with
  | some d=>match e d with
   | .bool x=>some (x,w)
   | _=>none
  | none=>none
 | none=>none
theorem Bmx {l:List Oper} {o:Oper} {e:Env} {x w:Bool} (h:gV l o e = some (x,w)):∃ j d,o.guard = some (j,w)∧(l.toArray[j]?).bind (·.dst) = some d∧e d = .bool x:=by
 unfold gV at h
 split at h
 ·split at h
  ·split at h
   ·cases h; exact ⟨_,_,by assumption,by assumption,by assumption⟩
   ·cases h
  ·cases h
 ·cases h
theorem gN {l:List Oper} {o:Oper} {e:Env} {x w:Bool} (h:gV l o e = some (x,w)) (hx:x = !w):Bz l.toArray o e = false:=let ⟨_,_,h1,h2,h3⟩:=Bmx h; Bl h1 h2 h3 hx
theorem gY {l:List Oper} {o:Oper} {e:Env} {x w:Bool} (h:gV l o e = some (x,w)) (hx:x = w):Bz l.toArray o e = true:=let ⟨_,_,h1,h2,h3⟩:=Bmx h; Ar h1 h2 h3 hx
theorem Jf {j:Nat} {w:Bool} {d:Nat} {o:Oper} (hg:o.guard = some (j,w)) (hd:(l₀.toArray[j]?).bind (·.dst) = some d) (he:e d = undef):Bz l₀.toArray o e = false:=by
 unfold Bz Ht
 simp only [hg,hd,he,undef]
 rfl
/-- What an operation yields,whatever else is held: it touches nothing that is not only read. -/
def Yld (P:Program) (ρ:Ro) (e:Env) (o:Op) (ty:TypeId) (v:Value):Prop :=
 ∀ ρ' σ d pos af g,(∀ b o,ρ b = some o→ρ' b = some o)→wpS P ρ' (execOp (Af e) ⟨d,o,ty,pos,af,g⟩) σ (fun nx σ'=>nx = .value v∧σ' = σ)
theorem Aa {d:Nat} {op:Op} {ty:TypeId} {pos:String} {af:Array Edge} {g:Option (Nat × Bool)} {v:Value} (hw:Bz l₀.toArray ⟨some d,op,ty,pos,af,g⟩ e = true) (hy:Yld C.P ρ e op ty v) (h:Ey C b n l₀ rest Q (upd e d v) ds ρ σ) :
  Ey C b n l₀ (⟨some d,op,ty,pos,af,g⟩ :: rest) Q e ds ρ σ :=
 Add hw (Eu (by rintro nx σ' ⟨rfl,rfl⟩; exact h) _ _ (hy ρ σ _ _ _ _ fun _ _ h=>h))
theorem Ak {F:Value→Prop} {d:Nat} {op:Op} {ty:TypeId} {pos:String} {af:Array Edge} {g:Option (Nat × Bool)} (hw:Bz l₀.toArray ⟨some d,op,ty,pos,af,g⟩ e = true) (hy:∃ v,F v∧Yld C.P ρ e op ty v) (h:∀ v,F v→Ey C b n l₀ rest Q (upd e d v) ds ρ σ) :
  Ey C b n l₀ (⟨some d,op,ty,pos,af,g⟩ :: rest) Q e ds ρ σ:=let ⟨v,h1,h2⟩:=hy; Aa hw h2 (h v h1)
theorem Ae {d:Nat} {op:Op} {ty:TypeId} {pos:String} {af:Array Edge} {g:Option (Nat × Bool)} (hw:Bz l₀.toArray ⟨some d,op,ty,pos,af,g⟩ e = true)
  (h:wpS C.P ρ (execOp (Af e) ⟨some d,op,ty,pos,af,g⟩) σ (NextH C (fun v=>Ey C b n l₀ rest Q (upd e d v)) b.round ds ρ)):Ey C b n l₀ (⟨some d,op,ty,pos,af,g⟩ :: rest) Q e ds ρ σ:=Add hw h
theorem Cx {op:Op} {ty:TypeId} {pos:String} {af:Array Edge} {g:Option (Nat × Bool)} (hw:Bz l₀.toArray ⟨none,op,ty,pos,af,g⟩ e = true)
  (h:wpS C.P ρ (execOp (Af e) ⟨none,op,ty,pos,af,g⟩) σ (NextH C (fun _=>Ey C b n l₀ rest Q e) b.round ds ρ)):Ey C b n l₀ (⟨none,op,ty,pos,af,g⟩ :: rest) Q e ds ρ σ:=Add hw h
end
section
variable {P:Program} {ρ:Ro} {e:Env} {ty t t':TypeId} {x y:Operand} {v:Value}
theorem Mt {s:Sem Value} {op:Op} (hs:∀ d pos af g,execOp (Af e) ⟨d,op,ty,pos,af,g⟩ = s.bind fun v=>Sem.pure (Next.value v))
  (h:∀ ρ' σ,(∀ b o,ρ b = some o→ρ' b = some o)→wpS P ρ' s σ (fun w σ'=>w = v∧σ' = σ)):Yld P ρ e op ty v:=fun ρ' σ d pos af g hle=>by
 rw [hs,Ad]
 exact Eu (by rintro w σ' ⟨rfl,rfl⟩; exact ⟨rfl,rfl⟩) _ _ (h ρ' σ hle)
theorem Ah (hx:Af e x = v):Yld P ρ e (.move x) ty v:=fun ρ' σ d pos af g _=>by subst hx; exact ⟨rfl,rfl⟩
theorem Cp (hx:Af e x = v):Yld P ρ e (.assign x) ty v:=fun ρ' σ d pos af g _=>by subst hx; exact ⟨rfl,rfl⟩
theorem Bt {c:Operand} {k:Bool} (hc:Af e c = .bool k) (ht:k = true) (hx:Af e x = v):Yld P ρ e (.pick c x y) ty v:=fun ρ' σ d pos af g _=>by
 show wpS P ρ' ((do pure (Next.value (if ← asBool (Af e c) then Af e x else Af e y)):Sem Next)) σ _
 rw [hc]; subst hx ht; exact ⟨rfl,rfl⟩
theorem Bn {c:Operand} {k:Bool} (hc:Af e c = .bool k) (ht:k = false) (hy:Af e y = v):Yld P ρ e (.pick c x y) ty v:=fun ρ' σ d pos af g _=>by
 show wpS P ρ' ((do pure (Next.value (if ← asBool (Af e c) then Af e x else Af e y)):Sem Next)) σ _
 rw [hc]; subst hy ht; exact ⟨rfl,rfl⟩
theorem Bk {i:Nat} {vs:Array Value} (hx:Af e x = .tuple vs) (hi:vs[i]? = some v):Yld P ρ e (.extract x i) ty v :=
 Mt (s:=Instr.extract (Af e x) i) (fun _ _ _ _=>rfl) fun ρ' σ _=>by rw [hx]; simp only [Instr.extract,hi]; exact ⟨rfl,rfl⟩
theorem Iy {k:Bool} (hx:Af e x = .bool k):Yld P ρ e (.unOp .not t x) ty (.bool (!k)) :=
 Mt (s:=Op.unary .not (Af e x)) (fun _ _ _ _=>rfl) fun ρ' σ _=>by rw [hx]; exact ⟨rfl,rfl⟩
theorem Dh {op:BinOp} {k k':IntKind} {p q:Int}:eqGuard op t x y (.int k p) (.int k' q) = pure ():=by
 cases op <;> rfl
theorem Azq {op:BinOp} {p q:Bool}:eqGuard op t x y (.bool p) (.bool q) = pure ():=by
 cases op <;> rfl
theorem Ban {op:BinOp} {p q:ByteArray}:eqGuard op t x y (.string p) (.string q) = pure ():=by
 cases op <;> rfl
theorem La {op:BinOp} {p q:Value} (hx:Af e x = p) (hy:Af e y = q) (hg:eqGuard op t x y p q = pure ()) (h:binOp op t p q = pure v):Yld P ρ e (.binOp op t x y t') ty v :=
 Mt (s:=(do eqGuard op t x y (Af e x) (Af e y); binOp op t (Af e x) (Af e y))) (fun _ _ _ _=>rfl) fun ρ' σ _=>by
  rw [hx,hy,hg,h]; exact ⟨rfl,rfl⟩
section
variable {k:IntKind} {p q:Int}
theorem Da (hx:Af e x = .int k p) (hy:Af e y = .int k q):Yld P ρ e (.binOp .lss t x y t') ty (.bool (decide (p < q))):=La hx hy Dh (by simp [binOp]; rfl)
theorem Uz (hx:Af e x = .int k p) (hy:Af e y = .int k q):Yld P ρ e (.binOp .leq t x y t') ty (.bool (decide (p ≤ q))):=La hx hy Dh (by simp [binOp]; rfl)
theorem Gl (hx:Af e x = .int k p) (hy:Af e y = .int k q):Yld P ρ e (.binOp .gtr t x y t') ty (.bool (decide (p > q))):=La hx hy Dh (by simp only [binOp]; rw [if_neg (by simp)]; rfl)
theorem Uy (hx:Af e x = .int k p) (hy:Af e y = .int k q):Yld P ρ e (.binOp .geq t x y t') ty (.bool (decide (p ≥ q))):=La hx hy Dh (by simp only [binOp]; rw [if_neg (by simp)]; rfl)
theorem Ek (hx:Af e x = .int k p) (hy:Af e y = .int k q):Yld P ρ e (.binOp .eql t x y t') ty (.bool (p == q)):=La hx hy Dh (by simp only [binOp]; rw [if_neg (by simp)]; rfl)
theorem Dg (hx:Af e x = .int k p) (hy:Af e y = .int k q):Yld P ρ e (.binOp .neq t x y t') ty (.bool (p != q)):=La hx hy Dh (by simp only [binOp]; rw [if_neg (by simp)]; rfl)
theorem Br {z:Int} (hx:Af e x = .int k p) (hy:Af e y = .int k q) (hz:k.wrap (p + q) = z):Yld P ρ e (.binOp .add t x y t') ty (.int k z):=La hx hy Dh (by subst hz; simp only [binOp]; rw [if_neg (by simp)]; rfl)
theorem Ou {z:Int} (hx:Af e x = .int k p) (hy:Af e y = .int k q) (hz:k.wrap (p - q) = z):Yld P ρ e (.binOp .sub t x y t') ty (.int k z):=La hx hy Dh (by subst hz; simp only [binOp]; rw [if_neg (by simp)]; rfl)
theorem Wq {z:Int} (hx:Af e x = .int k p) (hy:Af e y = .int k q) (hz:k.wrap (p * q) = z):Yld P ρ e (.binOp .mul t x y t') ty (.int k z):=La hx hy Dh (by subst hz; simp only [binOp]; rw [if_neg (by simp)]; rfl)
end
end
section
variable {C:Ctx} {b:FB} {n:Nat} {l₀:List Oper} {Q:Env→List Deferred→Ro→Own→Prop} {e:Env} {ds:List Deferred} {ρ ρ₀:Ro} {σ:Own} {pz:List Nat} {fuel:Nat} {listed:Array Bool}
def leS (ρ₀:Ro):Ro→Own→Prop:=fun ρ' _=>Ro.le ρ₀ ρ'
/-- What may come up,looked at as lists. -/
def Dl (l:List Oper) (li:List Bool):List Nat:=(List.range l.length).filter fun i =>
 !li.getD i true && (match l[i]? with | some o=>o.after.toList.all fun e=>!Region.binds .any e || li.getD e.on false | none=>false)
def Xf (l:List Oper) (o:Oper):List Tmp :=
  (o.op.operands.toList.filterMap fun | .tmp t => some t | _ => none) ++ (match o.guard with
   | some (g,_)=>((l[g]?).bind (·.dst)).toList
   | none=>[])
def Aat (l:List Oper) (x y:Oper):Bool :=
 (match x.dst with | some d=>!(Xf l y).contains d && y.dst != some d | none=>true) && (match y.dst with | some d=>!(Xf l x).contains d | none=>true)
def Ahv (l:List Oper) (li:List Bool) (i:Nat):Bool :=
 match l[i]? with
 | none=>false
 | some oi=>(List.range l.length).all fun j=>j == i || li.getD j true || match l[j]? with
   | some oj=>oj.after.toList.any (fun e=>Region.binds .any e && e.on == i) || Aat l oi oj
   | none=>true
def Apw (l:List Oper):Bool:=l.all fun o=>match o.op with | .select ..=>false | _=>true
def Py (l:List Oper) (li:List Bool) (pz:List Nat) (i:Nat):Bool:=pz.contains i && Apw l && Ahv l li i && (Dl l li).contains i
theorem Hh (l:List Oper) (li:List Bool):Region.ready .any l.toArray li.toArray = Dl l li:=by
 unfold Region.ready Dl
 simp only [List.size_toArray,List.getElem?_toArray]
 congr 1
 funext i
 have e1:∀ k d,li.toArray.getD k d = li.getD k d:=fun k d=>by simp [Array.getD_eq_getD_getElem?,List.getD_eq_getElem?_getD]
 rw [e1]
 cases l[i]? with
 | none=>rfl
 | some o =>
  simp only [Option.map_some,Option.getD_some]
  rw [← Array.all_toList]
  simp only [e1]
theorem Ahw {l:List Oper} {li:List Bool} {i:Nat} (h:Ahv l li i = true):Region.free .any l.toArray li.toArray i = true:=by
 unfold Region.free
 unfold Ahv at h
 simp only [List.size_toArray,List.getElem?_toArray]
 have e1:∀ k d,li.toArray.getD k d = li.getD k d:=fun k d=>by simp [Array.getD_eq_getD_getElem?,List.getD_eq_getElem?_getD]
 have e2:∀ o,Oper.looksAt l.toArray o = Xf l o:=fun o=>by
  unfold Oper.looksAt Xf
  simp only [List.getElem?_toArray]
  rfl
 have e3:∀ x y,Oper.apart l.toArray x y = Aat l x y:=fun x y=>by unfold Oper.apart Aat; simp only [e2]; rfl
 revert h
 cases l[i]? with
 | none=>exact id
 | some oi =>
  simp only [e1,e3,← Array.any_toList]
  exact id
theorem Alr {l:List Oper} (h:Apw l = true):Region.noSelect l.toArray = true:=by
 unfold Region.noSelect
 rw [List.all_toArray]; exact h
theorem Dc {id:Nat} {Q:Hu} (pz:List Nat) (hm:C.P.follows .mixedOrders = true) (hs:Nm n l₀ = true) (hk:b.kind = .normal)
  (h:El C b l₀.toArray (fun e ds ρ σ=>Q .normal e ds ρ σ) pz (leS ρ) l₀.length (List.replicate l₀.length false).toArray e ds ρ σ):WpC C b n (.region id l₀.toArray true) Q e ds ρ σ :=
 Vk pz (leS ρ) hm (Ih hs) (by rw [hk]; simp) (by simpa using h)
theorem Bmw {id:Nat} {Q:Hu} (h:El C b l₀.toArray (fun e ds ρ σ=>Q .normal e ds ρ σ) (List.range l₀.length) (leS ρ) l₀.length (List.replicate l₀.length false).toArray e ds ρ σ) (hm:C.P.follows .mixedOrders = true:=by kernel_rfl) (hs:Nm n l₀ = true:=by rfl) (hk:b.kind = .normal:=by rfl):WpC C b n (.region id l₀.toArray true) Q e ds ρ σ:=Dc (List.range l₀.length) hm hs hk h
theorem Ec {li:List Bool} (hr:Dl l₀ li = []) (h:Q e ds ρ σ):El C b l₀.toArray Q pz (leS ρ₀) fuel li.toArray e ds ρ σ:=Aeb (by rw [Hh]; exact hr) h fuel
section
variable {d i:Nat} {op:Op} {ty:TypeId} {pos:String} {af:Array Edge} {g:Option (Nat × Bool)} {v:Value} {li:List Bool}
theorem Mo {li li':List Bool} {i:Nat} (h:li.set i true = li'):li.toArray.setIfInBounds i true = li'.toArray:=by subst h; simp
theorem Wg {pz:List Nat} (h:Py l₀ li pz i = true):pz.contains i = true∧Region.noSelect l₀.toArray = true∧Region.free .any l₀.toArray li.toArray i = true∧(Region.ready .any l₀.toArray li.toArray).contains i = true:=by
 unfold Py at h
 simp only [Bool.and_eq_true] at h
 exact ⟨h.1.1.1,Alr h.1.1.2,Ahw h.1.2,by rw [Hh]; exact h.2⟩
theorem Bd (li':List Bool) (hli:li.set i true = li') (ht:Py l₀ li pz i = true) (hi:l₀[i]? = some ⟨some d,op,ty,pos,af,g⟩)
  (hS:Ro.le ρ₀ ρ) (hw:Bz l₀.toArray ⟨some d,op,ty,pos,af,g⟩ e = true) (hy:Yld C.P ρ₀ e op ty v) (h:El C b l₀.toArray Q pz (leS ρ₀) fuel li'.toArray (upd e d v) ds ρ σ) :
  El C b l₀.toArray Q pz (leS ρ₀) (fuel + 1) li.toArray e ds ρ σ:=by
 obtain ⟨h1,h2,h3,h4⟩:=Wg ht
 refine Vm (by rw [List.getElem?_toArray]; exact hi) h1 h2 h3 h4 (.inl ⟨hw,fun ρ' σ' hS'=>hy ρ' σ' _ _ _ _ hS'⟩) hS ?_
 rw [Mo hli]; exact h
theorem Bmc  (i:Nat) (li':List Bool) (hi:l₀[i]? = some ⟨some d,op,ty,pos,af,g⟩) (hS:Ro.le ρ₀ ρ) (hw:Bz l₀.toArray ⟨some d,op,ty,pos,af,g⟩ e = true) (hy:Yld C.P ρ₀ e op ty v) (h:El C b l₀.toArray Q pz (leS ρ₀) fuel li'.toArray (upd e d v) ds ρ σ) (hli:li.set i true = li':=by rfl) (ht:Py l₀ li pz i = true:=by kernel_rfl) :
  El C b l₀.toArray Q pz (leS ρ₀) (fuel + 1) li.toArray e ds ρ σ:=Bd (i:=i) li' hli ht hi hS hw hy h
theorem Bmq  (i:Nat) (li':List Bool) (hi:l₀[i]? = some ⟨some d,op,ty,pos,af,g⟩) (hy:Yld C.P ρ₀ e op ty v) (h:El C b l₀.toArray Q pz (leS ρ₀) fuel li'.toArray (upd e d v) ds ρ σ) (hli:li.set i true = li':=by rfl) (ht:Py l₀ li pz i = true:=by kernel_rfl) (hS:Ro.le ρ₀ ρ:=by exact Brm) (hw:Bz l₀.toArray ⟨some d,op,ty,pos,af,g⟩ e = true:=by rfl) :
  El C b l₀.toArray Q pz (leS ρ₀) (fuel + 1) li.toArray e ds ρ σ:=Bd (i:=i) li' hli ht hi hS hw hy h
theorem Cd {F:Value→Prop} (li':List Bool) (hli:li.set i true = li') (ht:Py l₀ li pz i = true) (hi:l₀[i]? = some ⟨some d,op,ty,pos,af,g⟩)
  (hS:Ro.le ρ₀ ρ) (hw:Bz l₀.toArray ⟨some d,op,ty,pos,af,g⟩ e = true) (hy:∃ v,F v∧Yld C.P ρ₀ e op ty v) (h:∀ v,F v→El C b l₀.toArray Q pz (leS ρ₀) fuel li'.toArray (upd e d v) ds ρ σ) :
  El C b l₀.toArray Q pz (leS ρ₀) (fuel + 1) li.toArray e ds ρ σ:=let ⟨v,h1,h2⟩:=hy; Bd li' hli ht hi hS hw h2 (h v h1)
theorem Bme {F:Value→Prop} (i:Nat) (li':List Bool) (hi:l₀[i]? = some ⟨some d,op,ty,pos,af,g⟩) (hS:Ro.le ρ₀ ρ) (hw:Bz l₀.toArray ⟨some d,op,ty,pos,af,g⟩ e = true) (hy:∃ v,F v∧Yld C.P ρ₀ e op ty v) (h:∀ v,F v→El C b l₀.toArray Q pz (leS ρ₀) fuel li'.toArray (upd e d v) ds ρ σ) (hli:li.set i true = li':=by rfl) (ht:Py l₀ li pz i = true:=by kernel_rfl) :
  El C b l₀.toArray Q pz (leS ρ₀) (fuel + 1) li.toArray e ds ρ σ:=Cd (i:=i) li' hli ht hi hS hw hy h
theorem Bms {F:Value→Prop} (i:Nat) (li':List Bool) (hi:l₀[i]? = some ⟨some d,op,ty,pos,af,g⟩) (hy:∃ v,F v∧Yld C.P ρ₀ e op ty v) (h:∀ v,F v→El C b l₀.toArray Q pz (leS ρ₀) fuel li'.toArray (upd e d v) ds ρ σ) (hli:li.set i true = li':=by rfl) (ht:Py l₀ li pz i = true:=by kernel_rfl) (hS:Ro.le ρ₀ ρ:=by exact Brm) (hw:Bz l₀.toArray ⟨some d,op,ty,pos,af,g⟩ e = true:=by rfl) :
  El C b l₀.toArray Q pz (leS ρ₀) (fuel + 1) li.toArray e ds ρ σ:=Cd (i:=i) li' hli ht hi hS hw hy h
theorem Sw (li':List Bool) (hli:li.set i true = li') (ht:Py l₀ li pz i = true) (hi:l₀[i]? = some ⟨some d,op,ty,pos,af,g⟩)
  (hS:Ro.le ρ₀ ρ) (hw:Bz l₀.toArray ⟨some d,op,ty,pos,af,g⟩ e = false) (h:El C b l₀.toArray Q pz (leS ρ₀) fuel li'.toArray (upd e d undef) ds ρ σ) :
  El C b l₀.toArray Q pz (leS ρ₀) (fuel + 1) li.toArray e ds ρ σ:=by
 obtain ⟨h1,h2,h3,h4⟩:=Wg ht
 refine Vm (by rw [List.getElem?_toArray]; exact hi) h1 h2 h3 h4 (.inr ⟨hw,rfl⟩) hS ?_
 rw [Mo hli]; exact h
theorem Bmh  (i:Nat) (li':List Bool) (hi:l₀[i]? = some ⟨some d,op,ty,pos,af,g⟩) (hS:Ro.le ρ₀ ρ) (hw:Bz l₀.toArray ⟨some d,op,ty,pos,af,g⟩ e = false) (h:El C b l₀.toArray Q pz (leS ρ₀) fuel li'.toArray (upd e d undef) ds ρ σ) (hli:li.set i true = li':=by rfl) (ht:Py l₀ li pz i = true:=by kernel_rfl) :
  El C b l₀.toArray Q pz (leS ρ₀) (fuel + 1) li.toArray e ds ρ σ:=Sw (i:=i) li' hli ht hi hS hw h
theorem Bmz  (i:Nat) (li':List Bool) (hi:l₀[i]? = some ⟨some d,op,ty,pos,af,g⟩) (h:El C b l₀.toArray Q pz (leS ρ₀) fuel li'.toArray (upd e d undef) ds ρ σ) (hli:li.set i true = li':=by rfl) (ht:Py l₀ li pz i = true:=by kernel_rfl) (hS:Ro.le ρ₀ ρ:=by exact Brm) (hw:Bz l₀.toArray ⟨some d,op,ty,pos,af,g⟩ e = false:=by rfl) :
  El C b l₀.toArray Q pz (leS ρ₀) (fuel + 1) li.toArray e ds ρ σ:=Sw (i:=i) li' hli ht hi hS hw h
/-- What is held,told otherwise. -/
theorem Ej {ρ':Ro} {σ':Own} (hg:Ghost ρ σ ρ' σ') (hS:Ro.le ρ₀ ρ→Ro.le ρ₀ ρ') (h:El C b l₀.toArray Q pz (leS ρ₀) (fuel + 1) li.toArray e ds ρ' σ'):El C b l₀.toArray Q pz (leS ρ₀) (fuel + 1) li.toArray e ds ρ σ:=Aar hg hS h
theorem Agi {k:Nat} {o:Obj} (h:∀ ρ',Ro.le ρ ρ'→ρ' k = some o→El C b l₀.toArray Q pz (leS ρ₀) (fuel + 1) li.toArray e ds ρ' σ):El C b l₀.toArray Q pz (leS ρ₀) (fuel + 1) li.toArray e ds ρ ((k,.obj o) :: σ):=by
 by_cases hb:ρ k = none
 ·have hle:Ro.le ρ (ρ.add k o):=fun x ox hx=>by
   unfold Ro.add; rw [if_neg (fun e=>by rw [e,hb] at hx; cases hx)]; exact hx
  exact Ej (.freeze hb) (fun h0=>h0.trans hle) (h _ hle (by simp [Ro.add]))
 ·exact .inl fun W hs=>absurd (hs.dj k (List.mem_cons_self ..)) hb
/-- The one that may come up. -/
theorem Dj (li':List Bool) (hli:li.set i true = li') (hr:Dl l₀ li = [i]) (hi:l₀[i]? = some ⟨some d,op,ty,pos,af,g⟩) (hw:Bz l₀.toArray ⟨some d,op,ty,pos,af,g⟩ e = true)
  (h:wpS C.P ρ (execOp (Af e) ⟨some d,op,ty,pos,af,g⟩) σ (NextH C (fun v ds' ρ' σ'=>Ro.le ρ₀ ρ'∧El C b l₀.toArray Q pz (leS ρ₀) fuel li'.toArray (upd e d v) ds' ρ' σ') b.round ds ρ)) :
  El C b l₀.toArray Q pz (leS ρ₀) (fuel + 1) li.toArray e ds ρ σ:=by
 refine Mz ((Hh _ _).trans hr) (by simp) fun j hj=>?_
 rw [List.mem_singleton] at hj; subst hj
 unfold OpH
 simp only [List.getElem?_toArray,hi,Mo hli]
 rw [if_pos hw]
 exact Eu (fun nx σ' hn=>hn.mono fun v ds ρ σ hh=>⟨fun _=>hh.1,hh.2⟩) _ _ h
theorem Bmf  (i:Nat) (li':List Bool) (hi:l₀[i]? = some ⟨some d,op,ty,pos,af,g⟩) (hw:Bz l₀.toArray ⟨some d,op,ty,pos,af,g⟩ e = true) (h:wpS C.P ρ (execOp (Af e) ⟨some d,op,ty,pos,af,g⟩) σ (NextH C (fun v ds' ρ' σ'=>Ro.le ρ₀ ρ'∧El C b l₀.toArray Q pz (leS ρ₀) fuel li'.toArray (upd e d v) ds' ρ' σ') b.round ds ρ)) (hli:li.set i true = li':=by rfl) (hr:Dl l₀ li = [i]:=by kernel_rfl) :
  El C b l₀.toArray Q pz (leS ρ₀) (fuel + 1) li.toArray e ds ρ σ:=Dj (i:=i) li' hli hr hi hw h
theorem Bmt  (i:Nat) (li':List Bool) (hi:l₀[i]? = some ⟨some d,op,ty,pos,af,g⟩) (h:wpS C.P ρ (execOp (Af e) ⟨some d,op,ty,pos,af,g⟩) σ (NextH C (fun v ds' ρ' σ'=>Ro.le ρ₀ ρ'∧El C b l₀.toArray Q pz (leS ρ₀) fuel li'.toArray (upd e d v) ds' ρ' σ') b.round ds ρ)) (hli:li.set i true = li':=by rfl) (hr:Dl l₀ li = [i]:=by kernel_rfl) (hw:Bz l₀.toArray ⟨some d,op,ty,pos,af,g⟩ e = true:=by rfl) :
  El C b l₀.toArray Q pz (leS ρ₀) (fuel + 1) li.toArray e ds ρ σ:=Dj (i:=i) li' hli hr hi hw h
theorem Fg (li':List Bool) (hli:li.set i true = li') (hr:Dl l₀ li = [i]) (hi:l₀[i]? = some ⟨none,op,ty,pos,af,g⟩) (hw:Bz l₀.toArray ⟨none,op,ty,pos,af,g⟩ e = true)
  (h:wpS C.P ρ (execOp (Af e) ⟨none,op,ty,pos,af,g⟩) σ (NextH C (fun _ ds' ρ' σ'=>Ro.le ρ₀ ρ'∧El C b l₀.toArray Q pz (leS ρ₀) fuel li'.toArray e ds' ρ' σ') b.round ds ρ)) :
  El C b l₀.toArray Q pz (leS ρ₀) (fuel + 1) li.toArray e ds ρ σ:=by
 refine Mz ((Hh _ _).trans hr) (by simp) fun j hj=>?_
 rw [List.mem_singleton] at hj; subst hj
 unfold OpH
 simp only [List.getElem?_toArray,hi,Mo hli]
 rw [if_pos hw]
 exact Eu (fun nx σ' hn=>hn.mono fun v ds ρ σ hh=>⟨fun _=>hh.1,hh.2⟩) _ _ h
theorem Bmj  (i:Nat) (li':List Bool) (hi:l₀[i]? = some ⟨none,op,ty,pos,af,g⟩) (hw:Bz l₀.toArray ⟨none,op,ty,pos,af,g⟩ e = true) (h:wpS C.P ρ (execOp (Af e) ⟨none,op,ty,pos,af,g⟩) σ (NextH C (fun _ ds' ρ' σ'=>Ro.le ρ₀ ρ'∧El C b l₀.toArray Q pz (leS ρ₀) fuel li'.toArray e ds' ρ' σ') b.round ds ρ)) (hli:li.set i true = li':=by rfl) (hr:Dl l₀ li = [i]:=by kernel_rfl) :
  El C b l₀.toArray Q pz (leS ρ₀) (fuel + 1) li.toArray e ds ρ σ:=Fg (i:=i) li' hli hr hi hw h
theorem Bmv  (i:Nat) (li':List Bool) (hi:l₀[i]? = some ⟨none,op,ty,pos,af,g⟩) (h:wpS C.P ρ (execOp (Af e) ⟨none,op,ty,pos,af,g⟩) σ (NextH C (fun _ ds' ρ' σ'=>Ro.le ρ₀ ρ'∧El C b l₀.toArray Q pz (leS ρ₀) fuel li'.toArray e ds' ρ' σ') b.round ds ρ)) (hli:li.set i true = li':=by rfl) (hr:Dl l₀ li = [i]:=by kernel_rfl) (hw:Bz l₀.toArray ⟨none,op,ty,pos,af,g⟩ e = true:=by rfl) :
  El C b l₀.toArray Q pz (leS ρ₀) (fuel + 1) li.toArray e ds ρ σ:=Fg (i:=i) li' hli hr hi hw h
theorem Bg (li':List Bool) (hli:li.set i true = li') (hr:Dl l₀ li = [i]) (hi:l₀[i]? = some ⟨some d,op,ty,pos,af,g⟩) (hS:Ro.le ρ₀ ρ) (hw:Bz l₀.toArray ⟨some d,op,ty,pos,af,g⟩ e = true) (hy:Yld C.P ρ e op ty v)
  (h:El C b l₀.toArray Q pz (leS ρ₀) fuel li'.toArray (upd e d v) ds ρ σ):El C b l₀.toArray Q pz (leS ρ₀) (fuel + 1) li.toArray e ds ρ σ :=
 Dj li' hli hr hi hw (Eu (by rintro nx σ' ⟨rfl,rfl⟩; exact ⟨hS,h⟩) _ _ (hy ρ σ _ _ _ _ fun _ _ h=>h))
theorem Bmd  (i:Nat) (li':List Bool) (hi:l₀[i]? = some ⟨some d,op,ty,pos,af,g⟩) (hS:Ro.le ρ₀ ρ) (hw:Bz l₀.toArray ⟨some d,op,ty,pos,af,g⟩ e = true) (hy:Yld C.P ρ e op ty v) (h:El C b l₀.toArray Q pz (leS ρ₀) fuel li'.toArray (upd e d v) ds ρ σ) (hli:li.set i true = li':=by rfl) (hr:Dl l₀ li = [i]:=by kernel_rfl):El C b l₀.toArray Q pz (leS ρ₀) (fuel + 1) li.toArray e ds ρ σ:=Bg (i:=i) li' hli hr hi hS hw hy h
theorem Bmr  (i:Nat) (li':List Bool) (hi:l₀[i]? = some ⟨some d,op,ty,pos,af,g⟩) (hy:Yld C.P ρ e op ty v) (h:El C b l₀.toArray Q pz (leS ρ₀) fuel li'.toArray (upd e d v) ds ρ σ) (hli:li.set i true = li':=by rfl) (hr:Dl l₀ li = [i]:=by kernel_rfl) (hS:Ro.le ρ₀ ρ:=by exact Brm) (hw:Bz l₀.toArray ⟨some d,op,ty,pos,af,g⟩ e = true:=by rfl):El C b l₀.toArray Q pz (leS ρ₀) (fuel + 1) li.toArray e ds ρ σ:=Bg (i:=i) li' hli hr hi hS hw hy h
theorem Hk {F:Value→Prop} (li':List Bool) (hli:li.set i true = li') (hr:Dl l₀ li = [i]) (hi:l₀[i]? = some ⟨some d,op,ty,pos,af,g⟩) (hS:Ro.le ρ₀ ρ) (hw:Bz l₀.toArray ⟨some d,op,ty,pos,af,g⟩ e = true) (hy:∃ v,F v∧Yld C.P ρ e op ty v)
  (h:∀ v,F v→El C b l₀.toArray Q pz (leS ρ₀) fuel li'.toArray (upd e d v) ds ρ σ):El C b l₀.toArray Q pz (leS ρ₀) (fuel + 1) li.toArray e ds ρ σ:=let ⟨v,h1,h2⟩:=hy; Bg li' hli hr hi hS hw h2 (h v h1)
theorem Bmg {F:Value→Prop} (i:Nat) (li':List Bool) (hi:l₀[i]? = some ⟨some d,op,ty,pos,af,g⟩) (hS:Ro.le ρ₀ ρ) (hw:Bz l₀.toArray ⟨some d,op,ty,pos,af,g⟩ e = true) (hy:∃ v,F v∧Yld C.P ρ e op ty v) (h:∀ v,F v→El C b l₀.toArray Q pz (leS ρ₀) fuel li'.toArray (upd e d v) ds ρ σ) (hli:li.set i true = li':=by rfl) (hr:Dl l₀ li = [i]:=by kernel_rfl):El C b l₀.toArray Q pz (leS ρ₀) (fuel + 1) li.toArray e ds ρ σ:=Hk (i:=i) li' hli hr hi hS hw hy h
theorem Bmu {F:Value→Prop} (i:Nat) (li':List Bool) (hi:l₀[i]? = some ⟨some d,op,ty,pos,af,g⟩) (hy:∃ v,F v∧Yld C.P ρ e op ty v) (h:∀ v,F v→El C b l₀.toArray Q pz (leS ρ₀) fuel li'.toArray (upd e d v) ds ρ σ) (hli:li.set i true = li':=by rfl) (hr:Dl l₀ li = [i]:=by kernel_rfl) (hS:Ro.le ρ₀ ρ:=by exact Brm) (hw:Bz l₀.toArray ⟨some d,op,ty,pos,af,g⟩ e = true:=by rfl):El C b l₀.toArray Q pz (leS ρ₀) (fuel + 1) li.toArray e ds ρ σ:=Hk (i:=i) li' hli hr hi hS hw hy h
theorem Wv (li':List Bool) (hli:li.set i true = li') (hr:Dl l₀ li = [i]) (hi:l₀[i]? = some ⟨some d,op,ty,pos,af,g⟩) (hS:Ro.le ρ₀ ρ) (hw:Bz l₀.toArray ⟨some d,op,ty,pos,af,g⟩ e = false)
  (h:El C b l₀.toArray Q pz (leS ρ₀) fuel li'.toArray (upd e d undef) ds ρ σ):El C b l₀.toArray Q pz (leS ρ₀) (fuel + 1) li.toArray e ds ρ σ:=by
 refine Mz ((Hh _ _).trans hr) (by simp) fun j hj=>?_
 rw [List.mem_singleton] at hj; subst hj
 unfold OpH
 simp only [List.getElem?_toArray,hi,Mo hli]
 rw [if_neg (by simp [hw])]
 exact ⟨fun _=>hS,h⟩
theorem Bmi  (i:Nat) (li':List Bool) (hi:l₀[i]? = some ⟨some d,op,ty,pos,af,g⟩) (hS:Ro.le ρ₀ ρ) (hw:Bz l₀.toArray ⟨some d,op,ty,pos,af,g⟩ e = false) (h:El C b l₀.toArray Q pz (leS ρ₀) fuel li'.toArray (upd e d undef) ds ρ σ) (hli:li.set i true = li':=by rfl) (hr:Dl l₀ li = [i]:=by kernel_rfl):El C b l₀.toArray Q pz (leS ρ₀) (fuel + 1) li.toArray e ds ρ σ:=Wv (i:=i) li' hli hr hi hS hw h
theorem Bmy  (i:Nat) (li':List Bool) (hi:l₀[i]? = some ⟨some d,op,ty,pos,af,g⟩) (h:El C b l₀.toArray Q pz (leS ρ₀) fuel li'.toArray (upd e d undef) ds ρ σ) (hli:li.set i true = li':=by rfl) (hr:Dl l₀ li = [i]:=by kernel_rfl) (hS:Ro.le ρ₀ ρ:=by exact Brm) (hw:Bz l₀.toArray ⟨some d,op,ty,pos,af,g⟩ e = false:=by rfl):El C b l₀.toArray Q pz (leS ρ₀) (fuel + 1) li.toArray e ds ρ σ:=Wv (i:=i) li' hli hr hi hS hw h
/-- Two that may come up. -/
theorem Acq {d' j:Nat} {op':Op} {ty':TypeId} {pos':String} {af':Array Edge} {g':Option (Nat × Bool)} (li' li'':List Bool) (hli:li.set i true = li') (hlj:li.set j true = li'') (hr:Dl l₀ li = [i,j]) (hi:l₀[i]? = some ⟨some d,op,ty,pos,af,g⟩) (hj:l₀[j]? = some ⟨some d',op',ty',pos',af',g'⟩)
  (hw:Bz l₀.toArray ⟨some d,op,ty,pos,af,g⟩ e = true) (hw':Bz l₀.toArray ⟨some d',op',ty',pos',af',g'⟩ e = true)
  (h:wpS C.P ρ (execOp (Af e) ⟨some d,op,ty,pos,af,g⟩) σ (NextH C (fun v ds' ρ' σ'=>Ro.le ρ₀ ρ'∧El C b l₀.toArray Q pz (leS ρ₀) fuel li'.toArray (upd e d v) ds' ρ' σ') b.round ds ρ))
  (h':wpS C.P ρ (execOp (Af e) ⟨some d',op',ty',pos',af',g'⟩) σ (NextH C (fun v ds' ρ' σ'=>Ro.le ρ₀ ρ'∧El C b l₀.toArray Q pz (leS ρ₀) fuel li''.toArray (upd e d' v) ds' ρ' σ') b.round ds ρ)) :
  El C b l₀.toArray Q pz (leS ρ₀) (fuel + 1) li.toArray e ds ρ σ:=by
 refine Mz ((Hh _ _).trans hr) (by simp) fun m hm=>?_
 simp only [List.mem_cons,List.not_mem_nil,or_false] at hm
 rcases hm with rfl | rfl
 ·unfold OpH
  simp only [List.getElem?_toArray,hi,Mo hli]
  rw [if_pos hw]
  exact Eu (fun nx σ' hn=>hn.mono fun v ds ρ σ hh=>⟨fun _=>hh.1,hh.2⟩) _ _ h
 ·unfold OpH
  simp only [List.getElem?_toArray,hj,Mo hlj]
  rw [if_pos hw']
  exact Eu (fun nx σ' hn=>hn.mono fun v ds ρ σ hh=>⟨fun _=>hh.1,hh.2⟩) _ _ h'
theorem Akk (t:Bool) (h1:t = true→El C b l₀.toArray Q pz (leS ρ₀) fuel li.toArray e ds ρ σ) (h0:t = false→El C b l₀.toArray Q pz (leS ρ₀) fuel li.toArray e ds ρ σ):El C b l₀.toArray Q pz (leS ρ₀) fuel li.toArray e ds ρ σ:=by
 cases t
 ·exact h0 rfl
 ·exact h1 rfl
end
end
theorem l_M {C:Ctx} {b:FB} {n:Nat} {l₀ rest:List Oper} {Q:Env→List Deferred→Ro→Own→Prop} {e:Env} {ds:List Deferred} {ρ:Ro} {σ:Own} {d:Nat} {x:Operand} {ty:TypeId} {pos:String} {af:Array Edge} {g:Option (Nat × Bool)} (v:Value) (hw:Bz l₀.toArray ⟨some d,.move x,ty,pos,af,g⟩ e = true) (hx:Af e x = v) (h:Ey C b n l₀ rest Q (upd e d v) ds ρ σ):Ey C b n l₀ (⟨some d,.move x,ty,pos,af,g⟩ :: rest) Q e ds ρ σ:=Aa hw (Ah hx) h
theorem l_A {C:Ctx} {b:FB} {n:Nat} {l₀ rest:List Oper} {Q:Env→List Deferred→Ro→Own→Prop} {e:Env} {ds:List Deferred} {ρ:Ro} {σ:Own} {d:Nat} {x:Operand} {ty:TypeId} {pos:String} {af:Array Edge} {g:Option (Nat × Bool)} (v:Value) (hw:Bz l₀.toArray ⟨some d,.assign x,ty,pos,af,g⟩ e = true) (hx:Af e x = v) (h:Ey C b n l₀ rest Q (upd e d v) ds ρ σ):Ey C b n l₀ (⟨some d,.assign x,ty,pos,af,g⟩ :: rest) Q e ds ρ σ:=Aa hw (Cp hx) h
theorem w_q {C:Ctx} {b:FB} {n:Nat} {l₀:List Oper} {y:Code} {id:Nat} {Q:Hu} {e:Env} {ds:List Deferred} {ρ:Ro} {σ:Own} (hs:Nm n l₀ = true) (hk:b.kind = .normal) (h:∀ K:Env→List Deferred→Ro→Own→Prop,(∀ e ds ρ σ,WpC C b n y Q e ds ρ σ→K e ds ρ σ)→Ey C b n l₀ l₀ (fun e ds ρ σ=>Zo K Q .normal e ds ρ σ) e ds ρ σ):WpC C b n (.seq (.region id l₀.toArray false) y) Q e ds ρ σ:=Ai fun K k=>Ag hs hk (h K k)
theorem l_k {C:Ctx} {b:FB} {n:Nat} {l₀:List Oper} {e:Env} {ds:List Deferred} {ρ:Ro} {σ:Own} {K W:Env→List Deferred→Ro→Own→Prop} (hk:∀ e ds ρ σ,W e ds ρ σ→K e ds ρ σ) (h:W e ds ρ σ):Ey C b n l₀ [] K e ds ρ σ:=Ac (hk _ _ _ _ h)
theorem Asa {C:Ctx} {b:FB} {n:Nat} {l₀:List Oper} {e:Env} {ds:List Deferred} {ρ:Ro} {σ:Own} {K:Env→List Deferred→Ro→Own→Prop} {x y:Code} {Q:Hu} (hk:∀ e ds ρ σ,WpC C b n (.seq x y) Q e ds ρ σ→K e ds ρ σ) (h:∀ K':Env→List Deferred→Ro→Own→Prop,(∀ e ds ρ σ,WpC C b n y Q e ds ρ σ→K' e ds ρ σ)→WpC C b n x (Zo K' Q) e ds ρ σ):Ey C b n l₀ [] K e ds ρ σ:=Ac (hk _ _ _ _ (Ai h))
theorem Arx {C:Ctx} {b:FB} {n:Nat} {l₀ l₁:List Oper} {e:Env} {ds:List Deferred} {ρ:Ro} {σ:Own} {K:Env→List Deferred→Ro→Own→Prop} {y:Code} {id:Nat} {Q:Hu} (hs:Nm n l₁ = true) (hb:b.kind = .normal) (hk:∀ e ds ρ σ,WpC C b n (.seq (.region id l₁.toArray false) y) Q e ds ρ σ→K e ds ρ σ) (h:∀ K':Env→List Deferred→Ro→Own→Prop,(∀ e ds ρ σ,WpC C b n y Q e ds ρ σ→K' e ds ρ σ)→Ey C b n l₁ l₁ (fun e ds ρ σ=>Zo K' Q .normal e ds ρ σ) e ds ρ σ):Ey C b n l₀ [] K e ds ρ σ:=Ac (hk _ _ _ _ (w_q hs hb h))
theorem Asb {C:Ctx} {b:FB} {n:Nat} {l₁:List Oper} {e:Env} {ds:List Deferred} {ρ:Ro} {σ:Own} {x y:Code} {id:Nat} {Q:Hu} (hs:Nm n l₁ = true) (hb:b.kind = .normal) (h:∀ K K':Env→List Deferred→Ro→Own→Prop,(∀ e ds ρ σ,WpC C b n y Q e ds ρ σ→K e ds ρ σ)→(∀ e ds ρ σ,WpC C b n x (Zo K Q) e ds ρ σ→K' e ds ρ σ)→Ey C b n l₁ l₁ (fun e ds ρ σ=>Zo K' (Zo K Q) .normal e ds ρ σ) e ds ρ σ):WpC C b n (.seq (.seq (.region id l₁.toArray false) x) y) Q e ds ρ σ:=Ai fun K k=>w_q hs hb fun K' k'=>h K K' k k'
theorem Ary {C:Ctx} {b:FB} {n:Nat} {l₀ l₁:List Oper} {e:Env} {ds:List Deferred} {ρ:Ro} {σ:Own} {K₀:Env→List Deferred→Ro→Own→Prop} {x y:Code} {id:Nat} {Q:Hu} (hs:Nm n l₁ = true) (hb:b.kind = .normal) (hk:∀ e ds ρ σ,WpC C b n (.seq (.seq (.region id l₁.toArray false) x) y) Q e ds ρ σ→K₀ e ds ρ σ) (h:∀ K K':Env→List Deferred→Ro→Own→Prop,(∀ e ds ρ σ,WpC C b n y Q e ds ρ σ→K e ds ρ σ)→(∀ e ds ρ σ,WpC C b n x (Zo K Q) e ds ρ σ→K' e ds ρ σ)→Ey C b n l₁ l₁ (fun e ds ρ σ=>Zo K' (Zo K Q) .normal e ds ρ σ) e ds ρ σ):Ey C b n l₀ [] K₀ e ds ρ σ:=Ac (hk _ _ _ _ (Asb hs hb h))
theorem l_v {C:Ctx} {b:FB} {n:Nat} {l₀ rest:List Oper} {Q:Env→List Deferred→Ro→Own→Prop} {e:Env} {ds:List Deferred} {ρ:Ro} {σ:Own} {d:Nat} {op:Op} {ty:TypeId} {pos:String} {af:Array Edge} {v:Value} (hy:Yld C.P ρ e op ty v) (h:Ey C b n l₀ rest Q (upd e d v) ds ρ σ):Ey C b n l₀ (⟨some d,op,ty,pos,af,none⟩ :: rest) Q e ds ρ σ:=Aa rfl hy h
theorem Arw {C:Ctx} {b:FB} {n:Nat} {l₀ rest:List Oper} {Q:Env→List Deferred→Ro→Own→Prop} {e:Env} {ds:List Deferred} {ρ:Ro} {σ:Own} {F:Value→Prop} {d:Nat} {op:Op} {ty:TypeId} {pos:String} {af:Array Edge} (hy:∃ v,F v∧Yld C.P ρ e op ty v) (h:∀ v,F v→Ey C b n l₀ rest Q (upd e d v) ds ρ σ):Ey C b n l₀ (⟨some d,op,ty,pos,af,none⟩ :: rest) Q e ds ρ σ:=Ak rfl hy h
theorem Arv {C:Ctx} {b:FB} {n:Nat} {l₀ rest:List Oper} {Q:Env→List Deferred→Ro→Own→Prop} {e:Env} {ds:List Deferred} {ρ:Ro} {σ:Own} {d:Nat} {op:Op} {ty:TypeId} {pos:String} {af:Array Edge} (h:wpS C.P ρ (execOp (Af e) ⟨some d,op,ty,pos,af,none⟩) σ (NextH C (fun v=>Ey C b n l₀ rest Q (upd e d v)) b.round ds ρ)):Ey C b n l₀ (⟨some d,op,ty,pos,af,none⟩ :: rest) Q e ds ρ σ:=Ae rfl h
theorem Bmb {C:Ctx} {b:FB} {n:Nat} {l₀ rest:List Oper} {Q:Env→List Deferred→Ro→Own→Prop} {e:Env} {ds:List Deferred} {ρ:Ro} {σ:Own} {d:Nat} {x:Operand} {ty:TypeId} {pos:String} {af:Array Edge} (v:Value) (h:Ey C b n l₀ rest Q (upd e d v) ds ρ σ) (hx:Af e x = v:=by rfl):Ey C b n l₀ (⟨some d,.move x,ty,pos,af,none⟩ :: rest) Q e ds ρ σ:=Aa rfl (Ah hx) h
theorem Bma {C:Ctx} {b:FB} {n:Nat} {l₀ rest:List Oper} {Q:Env→List Deferred→Ro→Own→Prop} {e:Env} {ds:List Deferred} {ρ:Ro} {σ:Own} {d:Nat} {x:Operand} {ty:TypeId} {pos:String} {af:Array Edge} (v:Value) (h:Ey C b n l₀ rest Q (upd e d v) ds ρ σ) (hx:Af e x = v:=by rfl):Ey C b n l₀ (⟨some d,.assign x,ty,pos,af,none⟩ :: rest) Q e ds ρ σ:=Aa rfl (Cp hx) h
abbrev rP (ρ:Ro) (σ:Own) (v:Value):Value→Ro→Own→Prop:=fun w ρ' σ'=>ρ' = ρ∧σ' = σ∧w = v
theorem eT {a c:Value} (b:Value) (h:b = c) (h0:a = b:=by rfl):a = c:=h0.trans h
abbrev oC (c:Array Value) (t:TypeId):Res:=Res.obj (Obj.cells c t (0,0))
theorem Arz {x y:Nat × Res} {R:Own}:(x :: y :: R).Perm (y :: x :: R):=List.Perm.swap ..
theorem Asw {x:Nat × Res} {g R:Own}:(x :: (g ++ R)).Perm (g ++ (x :: R)):=List.perm_append_comm_assoc [x] g R
theorem Asd {x:Nat × Res} {g R:Own}:(g ++ (x :: R)).Perm (x :: (g ++ R)):=List.perm_append_comm_assoc g [x] R
theorem Ase {g h R:Own}:(g ++ (h ++ R)).Perm (h ++ (g ++ R)):=List.perm_append_comm_assoc g h R
theorem p_c {x:Nat × Res} {A B:Own} (h:A.Perm B):(x :: A).Perm (x :: B):=h.cons x
theorem p_a {g A B:Own} (h:A.Perm B):(g ++ A).Perm (g ++ B):=h.append_left g
end
section
open Go
/-- A kind of data: how many cells it takes,whether its value is an aggregate,which cells stand for it. -/
class Dat (α:Type) where
 k:Nat
 agg:Bool
 rep:Ro→List Value→α→Prop
 mono:∀ {ρ ρ':Ro} {cs:List Value} {x:α},Ro.le ρ ρ'→rep ρ cs x→rep ρ' cs x
 len:∀ {ρ:Ro} {cs:List Value} {x:α},rep ρ cs x→cs.length = k
 sgl:∀ {ρ:Ro} {cs:List Value} {x:α},rep ρ cs x→∀ c ∈ cs,single c = true
 one:agg = false→k = 1
def Vu (agg:Bool) (cs:List Value):Value:=if agg then .agg cs.toArray else cs.headD undef
def Val {α:Type} [Dat α] (ρ:Ro) (v:Value) (x:α):Prop:=∃ cs,Dat.rep ρ cs x∧v = Vu (Dat.agg α) cs
/-- The data stands at this place,in a block that is only read. -/
def At {α:Type} [Dat α] (ρ:Ro) (p:Value) (x:α):Prop :=
 ∃ b off c t fz cs rest,p = .pointer (some ⟨b,off,none⟩)∧ρ b = some (.cells c t fz)∧Dat.rep ρ cs x∧c.toList.drop off = cs ++ rest
section
variable {α:Type} [Dat α] {ρ ρ':Ro}
theorem Val.mono (h:Ro.le ρ ρ') {v:Value} {x:α}:Val ρ v x→Val ρ' v x:=fun ⟨cs,h1,h2⟩=>⟨cs,Dat.mono h h1,h2⟩
theorem At.mono (h:Ro.le ρ ρ') {p:Value} {x:α}:At ρ p x→At ρ' p x:=fun ⟨b,off,c,t,fz,cs,rest,h1,h2,h3,h4⟩=>⟨b,off,c,t,fz,cs,rest,h1,h _ _ h2,Dat.mono h h3,h4⟩
theorem Yw {cs:List Value} (hs:∀ c ∈ cs,single c = true) (h1:Dat.agg α = false→cs.length = 1):(Vu (Dat.agg α) cs).cells = cs.toArray:=by
 unfold Vu
 cases ha:Dat.agg α with
 | true=>rfl
 | false =>
  have:=h1 ha
  match cs,this with
  | [c],_ =>
   have hc:=hs c (List.mem_singleton.2 rfl)
   cases c <;> first | rfl | (simp [single] at hc)
theorem Val.cells {v:Value} {x:α} (h:Val ρ v x):∃ cs,Dat.rep ρ cs x∧v = Vu (Dat.agg α) cs∧v.cells = cs.toArray:=by
 obtain ⟨cs,h1,h2⟩:=h
 refine ⟨cs,h1,h2,?_⟩
 rw [h2]
 exact Yw (Dat.sgl h1) fun ha=>by rw [Dat.len h1,Dat.one ha]
end
def SliceV {α:Type} [Dat α] (ρ:Ro) (v:Value) (xs:List α):Prop :=
 ∃ a len cap,v = .slice a len cap∧xs.length = len∧len < 2 ^ 60∧len ≤ cap∧∀ i x,xs[i]? = some x→∃ b off,a = some ⟨b,off,none⟩∧At ρ (.pointer (some ⟨b,off + i * Dat.k α,none⟩)) x
theorem SliceV.mono {α:Type} [Dat α] {ρ ρ':Ro} (h:Ro.le ρ ρ') {v:Value} {xs:List α}:SliceV ρ v xs→SliceV ρ' v xs:=fun ⟨a,len,cap,h1,h2,h3,hc,h4⟩ =>
 ⟨a,len,cap,h1,h2,h3,hc,fun i x hx=>let ⟨b,off,h5,h6⟩:=h4 i x hx; ⟨b,off,h5,h6.mono h⟩⟩
instance {α:Type} [Dat α]:Dat (List α) where
 k:=1
 agg:=false
 rep ρ cs xs:=∃ v,cs = [v]∧SliceV ρ v xs
 mono h:=fun ⟨v,h1,h2⟩=>⟨v,h1,h2.mono h⟩
 len:=fun ⟨v,h1,_⟩=>by rw [h1]; rfl
 sgl:=fun ⟨v,h1,a,len,cap,h2,_⟩ c hc=>by
  rw [h1,List.mem_singleton] at hc
  rw [hc,h2]; rfl
 one _:=rfl
theorem Cs {α:Type} [Dat α] {ρ:Ro} {v:Value} {xs:List α}:Val ρ v xs↔SliceV ρ v xs :=
 ⟨fun ⟨cs,⟨w,h1,h2⟩,h3⟩=>by rw [h3,h1]; exact h2,fun h=>⟨[v],⟨v,rfl,h⟩,rfl⟩⟩
def I64 (x:Int):Prop:=-9223372036854775808 ≤ x∧x < 9223372036854775808
instance:Dat Int where
 k:=1
 agg:=false
 rep _ cs x:=cs = [.int .i64 x]∧I64 x
 mono _ h:=h
 len h:=by rw [h.1]; rfl
 sgl h:=by rw [h.1]; simp [single]
 one _:=rfl
instance:Dat Bool where
 k:=1
 agg:=false
 rep _ cs x:=cs = [.bool x]
 mono _ h:=h
 len h:=by rw [h]; rfl
 sgl h:=by rw [h]; simp [single]
 one _:=rfl
instance:Dat ByteArray where
 k:=1
 agg:=false
 rep _ cs x:=cs = [.string x]∧x.size < 2 ^ 60
 mono _ h:=h
 len h:=by rw [h.1]; rfl
 sgl h:=by rw [h.1]; simp [single]
 one _:=rfl
theorem Cv {ρ:Ro} {v:Value} {x:Int}:Val ρ v x↔v = .int .i64 x∧I64 x :=
 ⟨fun ⟨cs,h1,h2⟩=>by rw [h2,h1.1]; exact ⟨rfl,h1.2⟩,fun h=>⟨[v],⟨by rw [h.1],h.2⟩,rfl⟩⟩
theorem Ajo {ρ:Ro} {v:Value} {x:Bool}:Val ρ v x↔v = .bool x :=
 ⟨fun ⟨cs,h1,h2⟩=>by rw [h2,show cs = [.bool x] from h1]; rfl,fun h=>⟨[v],by rw [h]; rfl,rfl⟩⟩
theorem Jk {ρ:Ro} {v:Value} {x:ByteArray}:Val ρ v x↔v = .string x∧x.size < 2 ^ 60 :=
 ⟨fun ⟨cs,h1,h2⟩=>by rw [h2,h1.1]; exact ⟨rfl,h1.2⟩,fun h=>⟨[v],⟨by rw [h.1],h.2⟩,rfl⟩⟩
theorem At.rng {ρ:Ro} {p:Value} {x:Int} (h:At ρ p x):I64 x:=let ⟨_,_,_,_,_,_,_,_,_,h3,_⟩:=h; h3.2
theorem At.slen {ρ:Ro} {p:Value} {x:ByteArray} (h:At ρ p x):x.size < 2 ^ 60:=let ⟨_,_,_,_,_,_,_,_,_,h3,_⟩:=h; h3.2
theorem Val.len {α:Type} [Dat α] {ρ:Ro} {v:Value} {xs:List α} (h:Val ρ v xs):xs.length < 2 ^ 60:=by
 obtain ⟨a,len,cap,_,h2,h3,_,_⟩:=Cs.1 h
 omega
def Qv:TypeDesc→Bool
 | .struct _ | .array _ _=>true
 | _=>false
/-- A type of the program takes this kind of data. -/
structure GoTy (P:Program) (t:TypeId) (α:Type) [Dat α]:Prop where
 und:∃ d,P.underlying t = some d∧Qv d = Dat.agg α
 info:∃ i,P.info? t = some i∧i.size = Dat.k α
section
variable {P:Program} {ρ:Ro} {σ:Own} {t:TypeId}
theorem Gj {i:TypeInfo} (h:P.info? t = some i) {Q:TypeInfo→Own→Prop} (hq:Q i σ):wpS P ρ (typeInfo t) σ Q:=by
 show wpS P ρ (program.bind _) σ Q
 rw [Ad]
 show wpS P ρ (match P.info? t with | some i=>pure i | none=>stuck _) σ Q
 rw [h]; exact hq
theorem Az {d:TypeDesc} (h:P.underlying t = some d) {Q:TypeDesc→Own→Prop} (hq:Q d σ):wpS P ρ (underlying t) σ Q:=by
 show wpS P ρ (program.bind _) σ Q
 rw [Ad]
 show wpS P ρ (match P.underlying t with | some d=>pure d | none=>stuck _) σ Q
 rw [h]; exact hq
theorem Dx {n:Nat} (h:∃ i,P.info? t = some i∧i.size = n) {Q:Nat→Own→Prop} (hq:Q n σ):wpS P ρ (sizeOf t) σ Q:=by
 obtain ⟨i,h1,h2⟩:=h
 show wpS P ρ ((typeInfo t).bind _) σ Q
 rw [Ad]
 exact Gj h1 (by rw [h2]; exact hq)
theorem Hi {a:Bool} (h:∃ d,P.underlying t = some d∧Qv d = a) {Q:Bool→Own→Prop} (hq:Q a σ):wpS P ρ (isAgg t) σ Q:=by
 obtain ⟨d,h1,h2⟩:=h
 show wpS P ρ ((underlying t).bind _) σ Q
 rw [Ad]
 refine Az h1 ?_
 subst h2
 cases d <;> exact hq
theorem Ld (bl off i:Nat):(⟨bl,off,none⟩:Addr).add i = ⟨bl,off + i,none⟩:=by
 unfold Addr.add
 split
 ·rename_i h; subst h; rfl
 ·rfl
theorem Agj (a:Addr) (h:a.spot = none) (i:Nat):a.add i = ⟨a.block,a.off + i,none⟩:=by
 obtain ⟨bl,off,sp⟩:=a
 cases h; exact Ld bl off i
theorem Ff {a:Addr} {o:Obj} (hs:a.spot = none) (ho:Has ρ σ a.block o) {Q:Array Value→Own→Prop}:∀ (cs:List Value) (i:Nat) (acc:Array Value),
  (∀ j v,cs[j]? = some v→Gy o (a.off + i + j) = some v)→Q (acc ++ cs.toArray) σ→wpS P ρ (loadCellsFrom a i cs.length acc) σ Q:=by
 intro cs
 induction cs with
 | nil=>intro i acc _ h; exact (show Q acc σ by simpa using h)
 | cons v cs ih =>
  intro i acc h hq
  show wpS P ρ ((load (a.add i)).bind _) σ Q
  rw [Ad,Agj a hs]
  refine ⟨rfl,rfl,o,v,ho,?_,?_⟩
  ·have:=h 0 v rfl; simpa using this
  ·refine ih (i + 1) (acc.push v) (fun j w hw=>?_) (by simpa using hq)
   have:=h (j + 1) w (by simpa using hw)
   rw [show a.off + (i + 1) + j = a.off + i + (j + 1) by omega]; exact this
/-- A variable is read. -/
theorem Aaa {α:Type} [Dat α] (hT:GoTy P t α) {a:Addr} {c:Array Value} {t':TypeId} {fz:Nat × Nat} {cs rest:List Value} (hs:a.spot = none) (ho:Has ρ σ a.block (.cells c t' fz)) (hl:cs.length = Dat.k α)
  (hc:c.toList.drop a.off = cs ++ rest) {Q:Value→Own→Prop} (hq:Q (Vu (Dat.agg α) cs) σ):wpS P ρ (loadVar t a) σ Q:=by
 have hcell:∀ j v,cs[j]? = some v→c[a.off + j]? = some v:=fun j v hj=>by
  have:(c.toList.drop a.off)[j]? = some v:=by rw [hc,List.getElem?_append_left]; exact hj; exact (List.getElem?_eq_some_iff.1 hj).1
  rw [List.getElem?_drop] at this
  simpa using this
 show wpS P ρ ((isAgg t).bind _) σ Q
 rw [Ad]
 refine Hi hT.und ?_
 cases ha:Dat.agg α with
 | true =>
  show wpS P ρ ((sizeOf t).bind fun n=>(loadCells a n).bind _) σ Q
  rw [Ad]
  refine Dx hT.info ?_
  rw [Ad,← hl]
  refine Ff hs ho cs 0 #[] (fun j v hj=>?_) ?_
  ·simpa [Gy] using hcell j v hj
  ·rw [ha] at hq
   have hq':Q (.agg cs.toArray) σ:=by simpa [Vu] using hq
   have e1:(#[]:Array Value) ++ cs.toArray = cs.toArray:=by simp
   rw [e1]; exact hq'
 | false =>
  have h1:=Dat.one ha
  rw [h1] at hl
  match cs,hl with
  | [v],_ =>
   refine ⟨rfl,hs,_,v,ho,?_,?_⟩
   ·simpa [Gy] using hcell 0 v rfl
   ·rw [ha] at hq; exact hq
end
section
variable {C:Ctx} {b:FB} {n:Nat} {l₀ rest:List Oper} {Q:Env→List Deferred→Ro→Own→Prop} {e:Env} {ds:List Deferred} {ρ:Ro} {σ:Own}
variable {d:Nat} {ty:TypeId} {pos:String} {af:Array Edge} {g:Option (Nat × Bool)} {x y:Operand} {v p:Value} {t:TypeId}
/-- A load from a place that is only read. -/
theorem Ax {P:Program} {α:Type} [Dat α] {a:α} (hT:GoTy P t α) (hx:Af e x = p) (hp:At ρ p a):∃ v,Val ρ v a∧Yld P ρ e (.load t x) ty v:=by
 obtain ⟨bl,off,c,t',fz,cs,rs,h1,h2,h3,h4⟩:=hp
 refine ⟨_,⟨cs,h3,rfl⟩,Mt (s:=Instr.loadAt t (Af e x)) (fun _ _ _ _=>rfl) fun ρ' σ hle=>?_⟩
 rw [hx,h1]
 exact Aaa hT rfl (.inl (hle _ _ h2)) (Dat.len h3) h4 ⟨rfl,rfl⟩
theorem Bc {P:Program} {a:Int} (hT:GoTy P t Int) (hx:Af e x = p) (hp:At ρ p a):Yld P ρ e (.load t x) ty (.int .i64 a):=by
 obtain ⟨v,h1,h2⟩:=Ax (ty:=ty) hT hx hp
 rw [(Cv.1 h1).1] at h2; exact h2
theorem Nx {P:Program} {a:Bool} (hT:GoTy P t Bool) (hx:Af e x = p) (hp:At ρ p a):Yld P ρ e (.load t x) ty (.bool a):=by
 obtain ⟨v,h1,h2⟩:=Ax (ty:=ty) hT hx hp
 rw [Ajo.1 h1] at h2; exact h2
theorem Pk {P:Program} {a:ByteArray} (hT:GoTy P t ByteArray) (hx:Af e x = p) (hp:At ρ p a):Yld P ρ e (.load t x) ty (.string a):=by
 obtain ⟨v,h1,h2⟩:=Ax (ty:=ty) hT hx hp
 rw [(Jk.1 h1).1] at h2; exact h2
theorem Mc {P:Program} {bi:Builtin} {args:List Operand} {tys:Array TypeId} {vs:List Value} {s:Array Bool→Sem Value} (hv:args.map (Af e) = vs) (hb:∀ cs,builtin bi tys ty cs vs.toArray = (s cs).bind fun v=>Sem.pure (Next.value v))
  (h:∀ ρ' σ cs,(∀ b o,ρ b = some o→ρ' b = some o)→wpS P ρ' (s cs) σ (fun w σ'=>w = v∧σ' = σ)):Yld P ρ e (.call ⟨.builtin bi,args.toArray,tys⟩) ty v:=by
 have hargs:args.toArray.map (Af e) = vs.toArray:=by rw [← hv]; simp
 refine Mt (s:=s (args.toArray.map fun | .const _=>true | _=>false)) (fun d pos af g=>?_) fun ρ' σ hle=>h ρ' σ _ hle
 rw [← hb,← hargs]; rfl
theorem Ci {P:Program} {α:Type} [Dat α] {xs:List α} {el:TypeId} (hT:P.underlying t = some (.slice el)) (hx:Af e x = v) (hv:Val ρ v xs):Yld P ρ e (.call ⟨.builtin .len,#[x],#[t]⟩) ty (.int .i64 (xs.length:Int)):=by
 obtain ⟨a,len,cap,h1,h2,h3,_,h4⟩:=Cs.1 hv
 refine Mc (args:=[x]) (vs:=[v]) (s:=fun _=>Builtin.len_ #[t] ty #[v]) (by simp [hx]) (fun _=>rfl) fun ρ' σ cs _=>?_
 show wpS P ρ' ((underlying t).bind _) σ _
 rw [Ad]
 refine Az hT ?_
 rw [h1,← h2]
 exact ⟨rfl,rfl⟩
theorem Afz {P:Program} {s:ByteArray} (hT:P.underlying t = some .string) (hx:Af e x = .string s):Yld P ρ e (.call ⟨.builtin .len,#[x],#[t]⟩) ty (.int .i64 (s.size:Int)):=by
 refine Mc (args:=[x]) (vs:=[.string s]) (s:=fun _=>Builtin.len_ #[t] ty #[.string s]) (by simp [hx]) (fun _=>rfl) fun ρ' σ cs _=>?_
 show wpS P ρ' ((underlying t).bind _) σ _
 rw [Ad]
 refine Az hT ?_
 exact ⟨rfl,rfl⟩
/-- An element's place. -/
theorem Ch {P:Program} {α:Type} [Dat α] {xs:List α} {el:TypeId} {k:IntKind} {q:Int} {a:α} (i:Nat) (hT:P.underlying t = some (.slice el)) (hE:GoTy P el α)
  (hx:Af e x = v) (hv:Val ρ v xs) (hy:Af e y = .int k q) (hq:q = (i:Int)) (ha:xs[i]? = some a):∃ p,At ρ p a∧Yld P ρ e (.indexAddr t x y) ty p:=by
 obtain ⟨a0,len,cap,h1,h2,h3,_,h4⟩:=Cs.1 hv
 obtain ⟨bl,off,h5,h6⟩:=h4 i a ha
 have hi:i < xs.length:=(List.getElem?_eq_some_iff.1 ha).1
 refine ⟨_,h6,Mt (s:=Instr.indexAt t (Af e x) (Af e y)) (fun _ _ _ _=>rfl) fun ρ' σ _=>?_⟩
 rw [hx,hy,h1,h5,hq]
 show wpS P ρ' ((underlying t).bind _) σ _
 rw [Ad]
 refine Az hT ?_
 show wpS P ρ' ((underlying t).bind _) σ _
 rw [Ad]
 refine Az hT ?_
 simp only []
 rw [if_pos ⟨by omega,by omega⟩]
 show wpS P ρ' ((sizeOf el).bind _) σ _
 rw [Ad]
 refine Dx hE.info ?_
 have e1:((i:Int).toNat * Dat.k α) = i * Dat.k α:=by simp
 rw [e1,Ld]; exact ⟨rfl,rfl⟩
/-- A slice's part. -/
theorem Bft {α:Type} [Dat α] {xs:List α} {a:Option Addr} {len cap h:Nat} (hv:Val ρ (.slice a len cap) xs) (hh:h ≤ len):Val ρ (.slice (if cap = 0 then a else a.map (·.add (0 * Dat.k α))) (h - 0) (cap - 0)) (xs.take h):=by
 obtain ⟨a',len',cap',h1,h2,h3,h4,h5⟩:=Cs.1 hv
 cases h1
 refine Cs.2 ⟨a,h,cap,?_,by simp; omega,by omega,by omega,fun i x hx=>?_⟩
 ·congr 1
  split
  ·rfl
  ·cases a with
   | none=>rfl
   | some ad=>simp [Addr.add]
 ·rw [List.getElem?_take] at hx
  split at hx
  ·exact h5 i x hx
  ·cases hx
theorem Ajb {α:Type} [Dat α] {xs:List α} {a:Option Addr} {len cap l:Nat} (hv:Val ρ (.slice a len cap) xs) (hl:l ≤ len):Val ρ (.slice (if cap = l then a else a.map (·.add (l * Dat.k α))) (len - l) (cap - l)) (xs.drop l):=by
 obtain ⟨a',len',cap',h1,h2,h3,h4,h5⟩:=Cs.1 hv
 cases h1
 refine Cs.2 ⟨_,_,_,rfl,by simp; omega,by omega,by omega,fun i x hx=>?_⟩
 rw [List.getElem?_drop] at hx
 obtain ⟨b,off,h6,h7⟩:=h5 _ x hx
 have hlt:=(List.getElem?_eq_some_iff.1 hx).1
 subst h6
 rw [if_neg (by omega)]
 refine ⟨b,off + l * Dat.k α,by simp [Ld],?_⟩
 rw [show off + l * Dat.k α + i * Dat.k α = off + (l + i) * Dat.k α by rw [Nat.add_mul,Nat.add_assoc]]; exact h7
theorem Avf {P:Program} {α:Type} [Dat α] {xs:List α} {el:TypeId} {k:IntKind} {q:Int} (h:Nat) (hT:P.underlying t = some (.slice el)) (hE:GoTy P el α) (hx:Af e x = v) (hv:Val ρ v xs) (hy:Af e y = .int k q) (hq:q = (h:Int)) (hh:h ≤ xs.length) :
  ∃ w,Val ρ w (xs.take h)∧Yld P ρ e (.slice t x none (some y) none) ty w:=by
 obtain ⟨a,len,cap,h1,h2,h3,h4,h5⟩:=Cs.1 hv
 subst h1
 refine ⟨_,Bft hv (by omega),Mt (s:=Instr.sliceAt t (Af e x) none (some (Af e y)) none) (fun _ _ _ _=>rfl) fun ρ' σ _=>?_⟩
 rw [hx,hy,hq]
 show wpS P ρ' ((underlying t).bind _) σ _
 rw [Ad]
 refine Az hT ?_
 show wpS P ρ' ((underlying t).bind _) σ _
 rw [Ad]
 refine Az hT ?_
 simp only []
 show wpS P ρ' ((Instr.sliceBounds true len cap none (some (.int k h)) none).bind _) σ _
 have hb:Instr.sliceBounds true len cap none (some (.int k (h:Int))) none = pure (0,h,cap):=by
  show (do let m ← pure cap; let hh ← Instr.sliceBound (.int k (h:Int)) m _; let l ← pure 0; pure (l,hh,m):Sem _) = _
  have:Instr.sliceBound (.int k (h:Int)) cap .sliceAcap = pure h:=by
   show (if 0 ≤ (h:Int)∧(h:Int) ≤ cap then pure (h:Int).toNat else _) = _
   rw [if_pos (by omega)]; simp
  show (Instr.sliceBound (.int k (h:Int)) cap .sliceAcap).bind _ = _
  rw [this]; rfl
 rw [hb]
 show wpS P ρ' ((sizeOf el).bind _) σ _
 rw [Ad]
 exact Dx hE.info ⟨rfl,rfl⟩
theorem Ack {P:Program} {α:Type} [Dat α] {xs:List α} {el:TypeId} {k:IntKind} {q:Int} (l:Nat) (hT:P.underlying t = some (.slice el)) (hE:GoTy P el α) (hx:Af e x = v) (hv:Val ρ v xs) (hy:Af e y = .int k q) (hq:q = (l:Int)) (hl:l ≤ xs.length) :
  ∃ w,Val ρ w (xs.drop l)∧Yld P ρ e (.slice t x (some y) none none) ty w:=by
 obtain ⟨a,len,cap,h1,h2,h3,h4,h5⟩:=Cs.1 hv
 subst h1
 refine ⟨_,Ajb hv (by omega),Mt (s:=Instr.sliceAt t (Af e x) (some (Af e y)) none none) (fun _ _ _ _=>rfl) fun ρ' σ _=>?_⟩
 rw [hx,hy,hq]
 show wpS P ρ' ((underlying t).bind _) σ _
 rw [Ad]
 refine Az hT ?_
 show wpS P ρ' ((underlying t).bind _) σ _
 rw [Ad]
 refine Az hT ?_
 simp only []
 show wpS P ρ' ((Instr.sliceBounds true len cap (some (.int k l)) none none).bind _) σ _
 have hb:Instr.sliceBounds true len cap (some (.int k (l:Int))) none none = pure (l,len,cap):=by
  have:Instr.sliceBound (.int k (l:Int)) len .sliceB = pure l:=by
   show (if 0 ≤ (l:Int)∧(l:Int) ≤ len then pure (l:Int).toNat else _) = _
   rw [if_pos (by omega)]; simp
  show (Instr.sliceBound (.int k (l:Int)) len .sliceB).bind _ = _
  rw [this]; rfl
 rw [hb]
 show wpS P ρ' ((sizeOf el).bind _) σ _
 rw [Ad]
 exact Dx hE.info ⟨rfl,rfl⟩
/-- A field of a kind of data. -/
structure Fld (α β:Type) [Dat α] [Dat β] (off:Nat) (get:α→β):Prop where
 at_:∀ ρ cs x,Dat.rep (α:=α) ρ cs x→∃ pre cs' post,cs = pre ++ (cs' ++ post)∧pre.length = off∧Dat.rep (α:=β) ρ cs' (get x)
theorem At.fld {α β:Type} [Dat α] [Dat β] {off0:Nat} {get:α→β} (hf:Fld α β off0 get) {bl off:Nat} {x:α} (h:At ρ (.pointer (some ⟨bl,off,none⟩)) x):At ρ (.pointer (some ⟨bl,off + off0,none⟩)) (get x):=by
 obtain ⟨bl',off',c,t',fz,cs,rs,h1,h2,h3,h4⟩:=h
 cases h1
 obtain ⟨pre,cs',post,h5,h6,h7⟩:=hf.at_ _ _ _ h3
 refine ⟨bl,off + off0,c,t',fz,cs',post ++ rs,rfl,h2,h7,?_⟩
 rw [← List.drop_drop,h4,h5,← h6,List.append_assoc,List.drop_left,List.append_assoc]
/-- A field's place. -/
theorem Ay {P:Program} {α β:Type} [Dat α] [Dat β] {off0 i:Nat} {get:α→β} {a:α} {fs:Array Field} {f:Field} (hf:Fld α β off0 get) (hT:P.underlying t = some (.struct fs)) (hi:fs[i]? = some f) (ho:f.offset = off0) (hF:GoTy P f.type β) (hk:Dat.k β ≠ 0)
  (hx:Af e x = p) (hp:At ρ p a):∃ p,At ρ p (get a)∧Yld P ρ e (.fieldAddr t x i) ty p:=by
 have hp0:=hp
 obtain ⟨bl,off,c,t',fz,cs,rs,h1,h2,h3,h4⟩:=hp
 refine ⟨_,At.fld hf (bl:=bl) (off:=off) (by rw [← h1]; exact hp0),Mt (s:=Instr.fieldAt t (Af e x) i) (fun _ _ _ _=>rfl) fun ρ' σ _=>?_⟩
 rw [hx,h1]
 show wpS P ρ' ((underlying t).bind _) σ _
 rw [Ad]
 refine Az hT ?_
 simp only [hi]
 show wpS P ρ' ((fieldPlace ⟨bl,off,none⟩ f).bind _) σ _
 rw [Ad]
 show wpS P ρ' ((sizeOf f.type).bind _) σ _
 rw [Ad]
 refine Dx hF.info ?_
 rw [if_neg hk,ho,Ld]
 exact ⟨rfl,rfl⟩
theorem Mr {P:Program} {f:FuncId} {fn:Func} {args:Array Value} {K:Next→Own→Prop} (hf:P.funcs[f]? = some fn) (hn:(fn.name == "runtime.NumGoroutine") = false) (hb:fn.body.isNone = false) (h:K (.enter f args) σ) :
  wpS P ρ (callFunc f args) σ K:=by
 show wpS P ρ (program.bind _) σ K
 rw [Ad]
 show wpS P ρ (match P.funcs[f]? with | none=>_ | some fn=>_) σ K
 rw [hf]
 simp only [hn,hb]
 exact h
end
abbrev Brh:=@At.rng
abbrev Bro:=@Val.len
abbrev Brp:=@Val.mono
end
section
open Go
instance {α β:Type} [Dat α] [Dat β]:Dat (α × β) where
 k:=Dat.k α + Dat.k β
 agg:=true
 rep ρ cs x:=∃ c1 c2,cs = c1 ++ c2∧Dat.rep ρ c1 x.1∧Dat.rep ρ c2 x.2
 mono h:=fun ⟨c1,c2,h1,h2,h3⟩=>⟨c1,c2,h1,Dat.mono h h2,Dat.mono h h3⟩
 len:=fun ⟨c1,c2,h1,h2,h3⟩=>by rw [h1,List.length_append,Dat.len h2,Dat.len h3]
 sgl:=fun ⟨c1,c2,h1,h2,h3⟩ c hc=>by
  rw [h1,List.mem_append] at hc
  exact hc.elim (Dat.sgl h2 c) (Dat.sgl h3 c)
 one h:=by cases h
/-- A struct's data: that of its fields,one after the other. -/
abbrev Dat.iso {α β:Type} [Dat β] (f:α→β):Dat α where
 k:=Dat.k β
 agg:=true
 rep ρ cs x:=Dat.rep ρ cs (f x)
 mono h h':=Dat.mono h h'
 len h:=Dat.len h
 sgl h:=Dat.sgl h
 one h:=by cases h
theorem Fld.self {α:Type} [Dat α]:Fld α α 0 id:=⟨fun _ cs _ h=>⟨[],cs,[],by simp,rfl,h⟩⟩
theorem Fld.fst {α β:Type} [Dat α] [Dat β]:Fld (α × β) α 0 Prod.fst:=⟨fun _ _ _ ⟨c1,c2,h1,h2,_⟩=>⟨[],c1,c2,by simp [h1],rfl,h2⟩⟩
theorem Fld.snd {α β γ:Type} [Dat α] [Dat β] [Dat γ] {off:Nat} {get:β→γ} (h:Fld β γ off get):Fld (α × β) γ (Dat.k α + off) (fun x=>get x.2) :=
 ⟨fun ρ cs x ⟨c1,c2,h1,h2,h3⟩=>by
  obtain ⟨pre,cs',post,h4,h5,h6⟩:=h.at_ ρ c2 x.2 h3
  exact ⟨c1 ++ pre,cs',post,by simp [h1,h4],by rw [List.length_append,Dat.len h2,h5],h6⟩⟩
/-- A type's zero value. -/
def Fw (P:Program) (t:TypeId) (z:Value):Prop:=∃ i,P.info? t = some i∧i.zero = some z
theorem Ab {P:Program} {t:TypeId} {i:TypeInfo} (h:∀ w,Sem.run P (typeInfo t) w = .ok i w):P.info? t = some i:=by
 have h1:=h default
 cases hi:P.info? t with
 | none =>
  have h2:Sem.run P (typeInfo t) default = Sem.run P (match P.info? t with | some i=>pure i | none=>stuck "no such type") default:=rfl
  rw [hi] at h2
  rw [h2] at h1
  cases h1
 | some j =>
  have h2:Sem.run P (typeInfo t) default = Sem.run P (match P.info? t with | some i=>pure i | none=>stuck "no such type") default:=rfl
  rw [hi] at h2
  rw [h2] at h1
  have h3:(Result.ok j default:Result TypeInfo) = .ok i default:=h1
  cases h3; rfl
structure Span where
 low:Int
 high:Int
deriving DecidableEq
instance:Dat Span:=.iso fun x=>(x.low,x.high)
theorem Span.f_low:Fld Span (Int) 0 Span.low:=⟨fun ρ cs x=>(Fld.fst:Fld ((Int) × (Int)) (Int) 0 _).at_ ρ cs (x.low,x.high)⟩
theorem Span.f_high:Fld Span (Int) 1 Span.high:=⟨fun ρ cs x=>((.snd Fld.self):Fld ((Int) × (Int)) (Int) 1 _).at_ ρ cs (x.low,x.high)⟩
structure FField where
 name:ByteArray
 house:Int
 grows:Span
 marks:List Span
deriving DecidableEq
instance:Dat FField:=.iso fun x=>(x.name,(x.house,(x.grows,x.marks)))
theorem FField.f_name:Fld FField (ByteArray) 0 FField.name:=⟨fun ρ cs x=>(Fld.fst:Fld ((ByteArray) × (Int) × (Span) × (List Span)) (ByteArray) 0 _).at_ ρ cs (x.name,(x.house,(x.grows,x.marks)))⟩
theorem FField.f_house:Fld FField (Int) 1 FField.house:=⟨fun ρ cs x=>((.snd Fld.fst):Fld ((ByteArray) × (Int) × (Span) × (List Span)) (Int) 1 _).at_ ρ cs (x.name,(x.house,(x.grows,x.marks)))⟩
theorem FField.f_grows:Fld FField (Span) 2 FField.grows:=⟨fun ρ cs x=>((.snd (.snd Fld.fst)):Fld ((ByteArray) × (Int) × (Span) × (List Span)) (Span) 2 _).at_ ρ cs (x.name,(x.house,(x.grows,x.marks)))⟩
theorem FField.f_marks:Fld FField (List Span) 4 FField.marks:=⟨fun ρ cs x=>((.snd (.snd (.snd Fld.self))):Fld ((ByteArray) × (Int) × (Span) × (List Span)) (List Span) 4 _).at_ ρ cs (x.name,(x.house,(x.grows,x.marks)))⟩
structure Sale where
 grams:Int
 sellers:List Int
deriving DecidableEq
instance:Dat Sale:=.iso fun x=>(x.grams,x.sellers)
theorem Sale.f_grams:Fld Sale (Int) 0 Sale.grams:=⟨fun ρ cs x=>(Fld.fst:Fld ((Int) × (List Int)) (Int) 0 _).at_ ρ cs (x.grams,x.sellers)⟩
theorem Sale.f_sellers:Fld Sale (List Int) 1 Sale.sellers:=⟨fun ρ cs x=>((.snd Fld.self):Fld ((Int) × (List Int)) (List Int) 1 _).at_ ρ cs (x.grams,x.sellers)⟩
structure Market where
 houses:List ByteArray
 marks:List ByteArray
 fields:List FField
 sales:List Sale
deriving DecidableEq
instance:Dat Market:=.iso fun x=>(x.houses,(x.marks,(x.fields,x.sales)))
theorem Market.f_houses:Fld Market (List ByteArray) 0 Market.houses:=⟨fun ρ cs x=>(Fld.fst:Fld ((List ByteArray) × (List ByteArray) × (List FField) × (List Sale)) (List ByteArray) 0 _).at_ ρ cs (x.houses,(x.marks,(x.fields,x.sales)))⟩
theorem Market.f_marks:Fld Market (List ByteArray) 1 Market.marks:=⟨fun ρ cs x=>((.snd Fld.fst):Fld ((List ByteArray) × (List ByteArray) × (List FField) × (List Sale)) (List ByteArray) 1 _).at_ ρ cs (x.houses,(x.marks,(x.fields,x.sales)))⟩
theorem Market.f_fields:Fld Market (List FField) 2 Market.fields:=⟨fun ρ cs x=>((.snd (.snd Fld.fst)):Fld ((List ByteArray) × (List ByteArray) × (List FField) × (List Sale)) (List FField) 2 _).at_ ρ cs (x.houses,(x.marks,(x.fields,x.sales)))⟩
theorem Market.f_sales:Fld Market (List Sale) 3 Market.sales:=⟨fun ρ cs x=>((.snd (.snd (.snd Fld.self))):Fld ((List ByteArray) × (List ByteArray) × (List FField) × (List Sale)) (List Sale) 3 _).at_ ρ cs (x.houses,(x.marks,(x.fields,x.sales)))⟩
structure FTest where
 name:ByteArray
 sees:List Int
 errs:Bool
deriving DecidableEq
instance:Dat FTest:=.iso fun x=>(x.name,(x.sees,x.errs))
theorem FTest.f_name:Fld FTest (ByteArray) 0 FTest.name:=⟨fun ρ cs x=>(Fld.fst:Fld ((ByteArray) × (List Int) × (Bool)) (ByteArray) 0 _).at_ ρ cs (x.name,(x.sees,x.errs))⟩
theorem FTest.f_sees:Fld FTest (List Int) 1 FTest.sees:=⟨fun ρ cs x=>((.snd Fld.fst):Fld ((ByteArray) × (List Int) × (Bool)) (List Int) 1 _).at_ ρ cs (x.name,(x.sees,x.errs))⟩
theorem FTest.f_errs:Fld FTest (Bool) 2 FTest.errs:=⟨fun ρ cs x=>((.snd (.snd Fld.self)):Fld ((ByteArray) × (List Int) × (Bool)) (Bool) 2 _).at_ ρ cs (x.name,(x.sees,x.errs))⟩
structure Lab where
 kinds:List ByteArray
 most:Int
 tests:List FTest
deriving DecidableEq
instance:Dat Lab:=.iso fun x=>(x.kinds,(x.most,x.tests))
theorem Lab.f_kinds:Fld Lab (List ByteArray) 0 Lab.kinds:=⟨fun ρ cs x=>(Fld.fst:Fld ((List ByteArray) × (Int) × (List FTest)) (List ByteArray) 0 _).at_ ρ cs (x.kinds,(x.most,x.tests))⟩
theorem Lab.f_most:Fld Lab (Int) 1 Lab.most:=⟨fun ρ cs x=>((.snd Fld.fst):Fld ((List ByteArray) × (Int) × (List FTest)) (Int) 1 _).at_ ρ cs (x.kinds,(x.most,x.tests))⟩
theorem Lab.f_tests:Fld Lab (List FTest) 2 Lab.tests:=⟨fun ρ cs x=>((.snd (.snd Fld.self)):Fld ((List ByteArray) × (Int) × (List FTest)) (List FTest) 2 _).at_ ρ cs (x.kinds,(x.most,x.tests))⟩
structure Found where
 test:Int
 found:Bool
deriving DecidableEq
instance:Dat Found:=.iso fun x=>(x.test,x.found)
theorem Found.f_test:Fld Found (Int) 0 Found.test:=⟨fun ρ cs x=>(Fld.fst:Fld ((Int) × (Bool)) (Int) 0 _).at_ ρ cs (x.test,x.found)⟩
theorem Found.f_found:Fld Found (Bool) 1 Found.found:=⟨fun ρ cs x=>((.snd Fld.self):Fld ((Int) × (Bool)) (Bool) 1 _).at_ ρ cs (x.test,x.found)⟩
structure FNode where
 test:Int
 found:Int
 not:Int
deriving DecidableEq
instance:Dat FNode:=.iso fun x=>(x.test,(x.found,x.not))
theorem FNode.f_test:Fld FNode (Int) 0 FNode.test:=⟨fun ρ cs x=>(Fld.fst:Fld ((Int) × (Int) × (Int)) (Int) 0 _).at_ ρ cs (x.test,(x.found,x.not))⟩
theorem FNode.f_found:Fld FNode (Int) 1 FNode.found:=⟨fun ρ cs x=>((.snd Fld.fst):Fld ((Int) × (Int) × (Int)) (Int) 1 _).at_ ρ cs (x.test,(x.found,x.not))⟩
structure State where
 sets:Int
 left:Int
deriving DecidableEq
instance:Dat State:=.iso fun x=>(x.sets,x.left)
theorem State.f_sets:Fld State (Int) 0 State.sets:=⟨fun ρ cs x=>(Fld.fst:Fld ((Int) × (Int)) (Int) 0 _).at_ ρ cs (x.sets,x.left)⟩
theorem State.f_left:Fld State (Int) 1 State.left:=⟨fun ρ cs x=>((.snd Fld.self):Fld ((Int) × (Int)) (Int) 1 _).at_ ρ cs (x.sets,x.left)⟩
structure Place where
 at_:Int
 sets:Int
deriving DecidableEq
instance:Dat Place:=.iso fun x=>(x.at_,x.sets)
theorem Place.f_sets:Fld Place (Int) 1 Place.sets:=⟨fun ρ cs x=>((.snd Fld.self):Fld ((Int) × (Int)) (Int) 1 _).at_ ρ cs (x.at_,x.sets)⟩
structure Probe where
 errs:Bool
 sure:Int
 unsure:Int
deriving DecidableEq
instance:Dat Probe:=.iso fun x=>(x.errs,(x.sure,x.unsure))
theorem Probe.f_errs:Fld Probe (Bool) 0 Probe.errs:=⟨fun ρ cs x=>(Fld.fst:Fld ((Bool) × (Int) × (Int)) (Bool) 0 _).at_ ρ cs (x.errs,(x.sure,x.unsure))⟩
theorem Probe.f_sure:Fld Probe (Int) 1 Probe.sure:=⟨fun ρ cs x=>((.snd Fld.fst):Fld ((Bool) × (Int) × (Int)) (Int) 1 _).at_ ρ cs (x.errs,(x.sure,x.unsure))⟩
theorem Probe.f_unsure:Fld Probe (Int) 2 Probe.unsure:=⟨fun ρ cs x=>((.snd (.snd Fld.self)):Fld ((Bool) × (Int) × (Int)) (Int) 2 _).at_ ρ cs (x.errs,(x.sure,x.unsure))⟩
theorem Mx:GoTy Tryz.prog 41 Span:=⟨⟨_,Tryz.underlying41,rfl⟩,⟨_,Ab Tryz.typeInfo41,rfl⟩⟩
theorem Lo:GoTy Tryz.prog 47 FField:=⟨⟨_,Tryz.underlying47,rfl⟩,⟨_,Ab Tryz.typeInfo47,rfl⟩⟩
theorem ty59:GoTy Tryz.prog 146 Sale:=⟨⟨_,Tryz.underlying146,rfl⟩,⟨_,Ab Tryz.typeInfo146,rfl⟩⟩
theorem Ln:GoTy Tryz.prog 36 Market:=⟨⟨_,Tryz.underlying36,rfl⟩,⟨_,Ab Tryz.typeInfo36,rfl⟩⟩
theorem Um:GoTy Tryz.prog 189 FTest:=⟨⟨_,Tryz.underlying189,rfl⟩,⟨_,Ab Tryz.typeInfo189,rfl⟩⟩
theorem Zu:GoTy Tryz.prog 105 Lab:=⟨⟨_,Tryz.underlying105,rfl⟩,⟨_,Ab Tryz.typeInfo105,rfl⟩⟩
theorem Aby:GoTy Tryz.prog 112 Found:=⟨⟨_,Tryz.underlying112,rfl⟩,⟨_,Ab Tryz.typeInfo112,rfl⟩⟩
theorem ty94:GoTy Tryz.prog 127 FNode:=⟨⟨_,Tryz.underlying127,rfl⟩,⟨_,Ab Tryz.typeInfo127,rfl⟩⟩
theorem Oq:GoTy Tryz.prog 201 State:=⟨⟨_,Tryz.underlying201,rfl⟩,⟨_,Ab Tryz.typeInfo201,rfl⟩⟩
theorem Un:GoTy Tryz.prog 262 Probe:=⟨⟨_,Tryz.underlying262,rfl⟩,⟨_,Ab Tryz.typeInfo262,rfl⟩⟩
theorem ty3:GoTy Tryz.prog 3 (Int):=⟨⟨_,Tryz.underlying3,rfl⟩,⟨_,Ab Tryz.typeInfo3,rfl⟩⟩
theorem Pi:GoTy Tryz.prog 124 (Int):=⟨⟨_,Tryz.underlying124,rfl⟩,⟨_,Ab Tryz.typeInfo124,rfl⟩⟩
theorem Jg:GoTy Tryz.prog 191 (Int):=⟨⟨_,Tryz.underlying191,rfl⟩,⟨_,Ab Tryz.typeInfo191,rfl⟩⟩
theorem Wj:GoTy Tryz.prog 195 (Int):=⟨⟨_,Tryz.underlying195,rfl⟩,⟨_,Ab Tryz.typeInfo195,rfl⟩⟩
theorem ty4:GoTy Tryz.prog 4 (Bool):=⟨⟨_,Tryz.underlying4,rfl⟩,⟨_,Ab Tryz.typeInfo4,rfl⟩⟩
theorem ty9:GoTy Tryz.prog 9 (ByteArray):=⟨⟨_,Tryz.underlying9,rfl⟩,⟨_,Ab Tryz.typeInfo9,rfl⟩⟩
theorem Hw:GoTy Tryz.prog 32 (List ByteArray):=⟨⟨_,Tryz.underlying32,rfl⟩,⟨_,Ab Tryz.typeInfo32,rfl⟩⟩
theorem Se:GoTy Tryz.prog 33 (List FField):=⟨⟨_,Tryz.underlying33,rfl⟩,⟨_,Ab Tryz.typeInfo33,rfl⟩⟩
theorem Qn:GoTy Tryz.prog 34 (List Sale):=⟨⟨_,Tryz.underlying34,rfl⟩,⟨_,Ab Tryz.typeInfo34,rfl⟩⟩
theorem Uo:GoTy Tryz.prog 26 (List Span):=⟨⟨_,Tryz.underlying26,rfl⟩,⟨_,Ab Tryz.typeInfo26,rfl⟩⟩
theorem Vh:GoTy Tryz.prog 49 (List Int):=⟨⟨_,Tryz.underlying49,rfl⟩,⟨_,Ab Tryz.typeInfo49,rfl⟩⟩
theorem Vi:GoTy Tryz.prog 103 (List FTest):=⟨⟨_,Tryz.underlying103,rfl⟩,⟨_,Ab Tryz.typeInfo103,rfl⟩⟩
theorem Afp:GoTy Tryz.prog 108 (List Int):=⟨⟨_,Tryz.underlying108,rfl⟩,⟨_,Ab Tryz.typeInfo108,rfl⟩⟩
theorem Wl:GoTy Tryz.prog 255 (List Probe):=⟨⟨_,Tryz.underlying255,rfl⟩,⟨_,Ab Tryz.typeInfo255,rfl⟩⟩
def zc3:List Value:=[z0]
theorem zr3:Fw Tryz.prog 3 (z0):=⟨_,Ab Tryz.typeInfo3,rfl⟩
theorem zr4:Fw Tryz.prog 4 (.bool false):=⟨_,Ab Tryz.typeInfo4,rfl⟩
theorem zr9:Fw Tryz.prog 9 (.string (ByteArray.mk #[])):=⟨_,Ab Tryz.typeInfo9,rfl⟩
def Amj:List Value:=[nS,nS,nS,nS]
theorem Apg:Fw Tryz.prog 36 (.agg #[nS,nS,nS,nS]):=⟨_,Ab Tryz.typeInfo36,rfl⟩
theorem Bln:Fw Tryz.prog 49 (nS):=⟨_,Ab Tryz.typeInfo49,rfl⟩
def Amk:List Value:=[nS,z0,nS]
theorem Aph:Fw Tryz.prog 105 (.agg #[nS,z0,nS]):=⟨_,Ab Tryz.typeInfo105,rfl⟩
def Aml:List Value:=[z0,.bool false]
theorem Akf:Fw Tryz.prog 112 (.agg #[z0,.bool false]):=⟨_,Ab Tryz.typeInfo112,rfl⟩
theorem Aru:Fw Tryz.prog 114 (nS):=⟨_,Ab Tryz.typeInfo114,rfl⟩
theorem Acl:Fw Tryz.prog 124 (z0):=⟨_,Ab Tryz.typeInfo124,rfl⟩
def Akd:List Value:=[z0,nS]
theorem Agb:Fw Tryz.prog 146 (.agg #[z0,nS]):=⟨_,Ab Tryz.typeInfo146,rfl⟩
def Arm:List Value:=[z0,z0]
theorem Aak:Fw Tryz.prog 41 (.agg #[z0,z0]):=⟨_,Ab Tryz.typeInfo41,rfl⟩
def Aah:List Value:=[.string (ByteArray.mk #[]),z0,z0,z0,nS]
theorem Xu:Fw Tryz.prog 47 (.agg #[.string (ByteArray.mk #[]),z0,z0,z0,nS]):=⟨_,Ab Tryz.typeInfo47,rfl⟩
def Amm:List Value:=[z0,z0,z0]
theorem Agc:Fw Tryz.prog 127 (.agg #[z0,z0,z0]):=⟨_,Ab Tryz.typeInfo127,rfl⟩
def Aag:List Value:=[.string (ByteArray.mk #[]),nS,.bool false]
theorem Ws:Fw Tryz.prog 189 (.agg #[.string (ByteArray.mk #[]),nS,.bool false]):=⟨_,Ab Tryz.typeInfo189,rfl⟩
theorem Amt:Fw Tryz.prog 191 (z0):=⟨_,Ab Tryz.typeInfo191,rfl⟩
def Wr:List Value:=[z0,z0]
theorem Wt:Fw Tryz.prog 201 (.agg #[z0,z0]):=⟨_,Ab Tryz.typeInfo201,rfl⟩
theorem Amu:Fw Tryz.prog 205 (.agg #[z0,z0,z0,z0,z0]):=⟨_,Ab Tryz.typeInfo205,rfl⟩
def Akc:List Value:=[nS,nS,nS,nS,z0,z0,z0,z0,z0]
theorem Ake:Fw Tryz.prog 208 (.agg #[nS,nS,nS,nS,z0,z0,z0,z0,z0]):=⟨_,Ab Tryz.typeInfo208,rfl⟩
theorem Aai:Fw Tryz.prog 209 (.int .u64 0):=⟨_,Ab Tryz.typeInfo209,rfl⟩
def Arj:List Value:=[nS,z0,.map none]
theorem Aro:Fw Tryz.prog 258 (.agg #[nS,z0,.map none]):=⟨_,Ab Tryz.typeInfo258,rfl⟩
def Ark:List Value:=[.bool false,z0,z0]
theorem Aaj:Fw Tryz.prog 262 (.agg #[.bool false,z0,z0]):=⟨_,Ab Tryz.typeInfo262,rfl⟩
def Arl:List Value:=[nS,nS,nS,nS,z0,z0,z0,z0,z0,z0,z0,z0,z0,z0,z0,z0,z0,z0,z0,z0,z0,z0,z0,z0,z0,z0,z0,z0,z0,z0,z0,z0,z0,z0,z0,z0,z0,z0,z0,z0,z0,z0,z0,z0,z0,z0,z0,z0,z0,z0,z0,z0,z0,z0]
theorem Arp:Fw Tryz.prog 303 (.agg #[nS,nS,nS,nS,z0,z0,z0,z0,z0,z0,z0,z0,z0,z0,z0,z0,z0,z0,z0,z0,z0,z0,z0,z0,z0,z0,z0,z0,z0,z0,z0,z0,z0,z0,z0,z0,z0,z0,z0,z0,z0,z0,z0,z0,z0,z0,z0,z0,z0,z0,z0,z0,z0,z0]):=⟨_,Ab Tryz.typeInfo303,rfl⟩
theorem Arq:Fw Tryz.prog 306 (.agg #[.bool false,.bool false,.bool false,.bool false,.bool false,.bool false,.bool false,.bool false]):=⟨_,Ab Tryz.typeInfo306,rfl⟩
def Ari:List Value:=[.nilFunc]
theorem Arn:Fw Tryz.prog 202 (.nilFunc):=⟨_,Ab Tryz.typeInfo202,rfl⟩
abbrev Bna:=@Tryz.underlying88
abbrev Bnb:=@Tryz.underlying49
abbrev Bnc:=@Tryz.typeInfo3
abbrev Bnd:=@Tryz.underlying32
abbrev Bne:=@Tryz.underlying3
abbrev Bnf:=@Tryz.underlying290
abbrev Bng:=@Tryz.underlying36
abbrev Bnh:=@Tryz.underlying294
abbrev Bni:=@Tryz.underlying26
abbrev Bnj:=@Tryz.underlying41
abbrev Bnk:=@Tryz.underlying85
abbrev Bnl:=@Tryz.underlying114
abbrev Bnm:=@Tryz.underlying34
abbrev Bnn:=@Tryz.underlying108
abbrev Bno:=@Tryz.underlying184
abbrev Bnp:=@Tryz.underlying33
abbrev Bnq:=@Tryz.underlying146
abbrev Bnr:=@Tryz.underlying47
abbrev Bns:=@Tryz.underlying201
abbrev Bnt:=@Tryz.underlying9
abbrev Bnu:=@Tryz.underlying205
abbrev Bnv:=@Tryz.typeInfo205
abbrev Bnw:=@Tryz.underlying105
abbrev Bnx:=@Tryz.underlying243
abbrev Bny:=@Tryz.underlying255
abbrev Bnz:=@Tryz.underlying303
abbrev Boa:=@Tryz.typeInfo4
abbrev Bob:=@Tryz.underlying86
abbrev Boc:=@Tryz.underlying90
abbrev Bod:=@Tryz.underlying83
abbrev Boe:=@Tryz.underlying215
abbrev Bof:=@Tryz.underlying258
abbrev Bog:=@Tryz.func52
abbrev Boh:=@Tryz.underlying4
abbrev Boi:=@Tryz.underlying84
abbrev Boj:=@Tryz.underlying262
abbrev Bok:=@Tryz.typeInfo191
abbrev Bol:=@Tryz.underlying127
abbrev Bom:=@Tryz.underlying208
abbrev Bon:=@Tryz.underlying244
abbrev Boo:=@Tryz.func166
abbrev Bop:=@Tryz.typeInfo49
abbrev Boq:=@Tryz.underlying241
abbrev Bor:=@Tryz.underlying292
abbrev Bos:=@Tryz.func11
abbrev Bot:=@Tryz.typeInfo36
abbrev Bou:=@Tryz.underlying103
abbrev Bov:=@Tryz.underlying189
abbrev Bow:=@Tryz.underlying191
abbrev Box:=@Tryz.typeInfo88
abbrev Boy:=@Tryz.typeInfo195
abbrev Boz:=@Tryz.typeInfo255
abbrev Bpa:=@Tryz.typeInfo301
abbrev Bpb:=@Tryz.underlying301
abbrev Bpc:=@Tryz.underlying314
abbrev Bpd:=@Tryz.typeInfo34
abbrev Bpe:=@Tryz.typeInfo41
abbrev Bpf:=@Tryz.typeInfo262
abbrev Bpg:=@Tryz.typeInfo9
abbrev Bph:=@Tryz.typeInfo90
abbrev Bpi:=@Tryz.func9
abbrev Bpj:=@Tryz.underlying112
abbrev Bpk:=@Tryz.underlying113
abbrev Bpl:=@Tryz.underlying315
abbrev Bpm:=@Tryz.typeInfo85
abbrev Bpn:=@Tryz.func117
abbrev Bpo:=@Tryz.typeInfo208
abbrev Bpp:=@Tryz.typeInfo209
abbrev Bpq:=@Tryz.typeInfo292
abbrev Bpr:=@Tryz.typeInfo32
abbrev Bps:=@Tryz.typeInfo33
abbrev Bpt:=@Tryz.underlying291
abbrev Bpu:=@Tryz.typeInfo114
abbrev Bpv:=@Tryz.underlying5
abbrev Bpw:=@Tryz.func33
abbrev Bpx:=@Tryz.typeInfo26
abbrev Bpy:=@Tryz.func215
abbrev Bpz:=@Tryz.underlying259
abbrev Bqa:=@Tryz.underlying308
abbrev Bqb:=@Tryz.underlying339
abbrev Bqc:=@Tryz.underlying91
abbrev Bqd:=@Tryz.func90
abbrev Bqe:=@Tryz.typeInfo105
abbrev Bqf:=@Tryz.typeInfo108
abbrev Bqg:=@Tryz.typeInfo124
abbrev Bqh:=@Tryz.typeInfo314
abbrev Bqi:=@Tryz.func131
abbrev Bqj:=@Tryz.func161
abbrev Bqk:=@Tryz.func184
abbrev Bql:=@Tryz.func30
abbrev Bqm:=@Tryz.func31
abbrev Bqn:=@Tryz.func51
abbrev Bqo:=@Tryz.func86
abbrev Bqp:=@Tryz.func91
abbrev Bqq:=@Tryz.func92
abbrev Bqr:=@Tryz.underlying195
abbrev Bqs:=@Tryz.underlying213
abbrev Bqt:=@Tryz.underlying256
abbrev Bqu:=@Tryz.underlying260
abbrev Bqv:=@Tryz.underlying306
abbrev Bqw:=@Tryz.func135
abbrev Bqx:=@Tryz.func170
abbrev Bqy:=@Tryz.func216
abbrev Bqz:=@Tryz.typeInfo127
abbrev Bra:=@Tryz.typeInfo190
abbrev Brb:=@Tryz.typeInfo290
abbrev Brc:=@Tryz.typeInfo291
abbrev Brd:=@Tryz.typeInfo47
abbrev Bre:=@Tryz.func83
abbrev Brf:=@Tryz.func87
abbrev Brg:=@Tryz.func94
end
section
open Go
noncomputable abbrev CX (mn:Bool) (X:Frame→List Frame→Ro→Own→Cy→Prop):Ctx:=⟨Tryz.prog,mn,X⟩
def Abp:List Nat→Env→Value
 | [r],e=>e r
 | rs,e=>.tuple (rs.map e).toArray
theorem Lm {P:Program} {ρ:Ro} {σ:Own} {fn:Func} {rs:List Nat} {e:Env} {Q:Value→Own→Prop} (hr:fn.results = (rs.map ResultVar.tmp).toArray) (h:Q (Abp rs e) σ):wpS P ρ (Hp fn e) σ Q:=by
 have key:∀ (g:ResultVar→Sem Value),(∀ t,g (.tmp t) = pure (e t))→∀ (l:List Nat) (acc:Array Value),(List.foldlM (m:=Sem) (fun (bs:Array Value) (a:ResultVar)=>Functor.map bs.push (g a)) acc (l.map ResultVar.tmp)) = pure (acc ++ (l.map e).toArray):=by
  intro g hg l
  induction l with
  | nil=>intro acc; simp
  | cons r l ih =>
   intro acc
   simp only [List.map_cons,List.foldlM_cons,hg]
   show (List.foldlM _ (acc.push (e r)) (l.map ResultVar.tmp)) = _
   rw [ih]
   simp
 have hvs:Hp fn e = pure (if h:(rs.map e).toArray.size = 1 then (rs.map e).toArray[0] else .tuple (rs.map e).toArray):=by
  unfold Hp
  rw [hr,Array.mapM_eq_foldlM,List.foldlM_toArray,key _ (fun t=>rfl)]
  simp only [Array.empty_append]
  rfl
 rw [hvs]
 have:(if h:(rs.map e).toArray.size = 1 then (rs.map e).toArray[0] else .tuple (rs.map e).toArray) = Abp rs e:=by
  match rs with
  | []=>rfl
  | [r]=>rfl
  | r :: r' :: rs=>rfl
 rw [this]; exact h
theorem Bh {C:Ctx} {f:FuncId} {fn:Func} {c:Code} {n:Nat} {args:List Value} {ρ:Ro} {σ:Own} {R:Value→Ro→Own→Prop} (rs:List Nat) (hf:C.P.funcs[f]? = some fn) (hc:fn.body = some c) (hn:fn.ntmps = n) (ha:Nat.ble args.length n = true) (hr:fn.results = (rs.map ResultVar.tmp).toArray)
  (h:∀ Q:Hu,(∀ e ρ' σ',R (Abp rs e) ρ' σ'→Q .ret e [] ρ' σ')→(∀ e ρ' σ',R (Abp rs e) ρ' σ'→Q .normal e [] ρ' σ')→WpC C ⟨f,.normal,none⟩ n c Q (Pn args) [] ρ σ):CallsH C f args.toArray ρ σ R :=
 Oy hf hc hn (Nat.le_of_ble_eq_true ha) (h _ (fun e ρ' σ' hR=>⟨fun id h=>(by cases h),Lm (Q:=fun v σ'=>R v ρ' σ') hr hR⟩) (fun e ρ' σ' hR=>⟨fun id h=>(by cases h),Lm (Q:=fun v σ'=>R v ρ' σ') hr hR⟩))
section
variable {C:Ctx} {b:FB} {n:Nat} {l₀ rest:List Oper} {Q:Env→List Deferred→Ro→Own→Prop} {Q':Hu} {e:Env} {ds:List Deferred} {ρ:Ro} {σ:Own}
variable {d:Nat} {ty:TypeId} {pos:String} {af:Array Edge} {g:Option (Nat × Bool)} {x y:Operand} {v p:Value} {t t':TypeId}
theorem Co {c:Operand} {x y:Code} {t:Bool} (hc:Af e c = .bool t) (ht:t = true) (h:WpC C b n x Q' e ds ρ σ):WpC C b n (.cond c x y) Q' e ds ρ σ :=
 Up hc (fun _=>h) (fun h0=>by rw [ht] at h0; cases h0)
theorem Cg {c:Operand} {x y:Code} {t:Bool} (hc:Af e c = .bool t) (ht:t = false) (h:WpC C b n y Q' e ds ρ σ):WpC C b n (.cond c x y) Q' e ds ρ σ :=
 Up hc (fun h0=>by rw [ht] at h0; cases h0) (fun _=>h)
/-- By what a bool is. -/
theorem Cn (t:Bool) (h1:t = true→Ey C b n l₀ rest Q e ds ρ σ) (h0:t = false→Ey C b n l₀ rest Q e ds ρ σ):Ey C b n l₀ rest Q e ds ρ σ:=by
 cases t
 ·exact h0 rfl
 ·exact h1 rfl
def EvL (e:Env):List Operand→List Value→Prop
 | [],[]=>True
 | x :: xs,v :: vs=>Af e x = v∧EvL e xs vs
 | _,_=>False
theorem EvL.map {e:Env}:∀ {xs:List Operand} {vs:List Value},EvL e xs vs→xs.toArray.map (Af e) = vs.toArray
 | [],[],_=>by simp
 | x :: xs,v :: vs,⟨h1,h2⟩=>by
  have:=EvL.map h2
  simp only [List.map_toArray,List.map_cons] at this ⊢
  rw [h1]
  have h3:xs.map (Af e) = vs:=by simpa using congrArg Array.toList this
  rw [h3]
 | [],_ :: _,h=>h.elim
 | _ :: _,[],h=>h.elim
/-- A function of the program,called by its name. -/
theorem Cm {K:Value→List Deferred→Ro→Own→Prop} {rd:Option Nat} {dd:Option Tmp} {f:FuncId} {fn:Func} {args:List Operand} {tys:Array TypeId} {vs:List Value} {R:Value→Ro→Own→Prop} (hc:CallsH C f vs.toArray ρ σ R) (hf:C.P.funcs[f]? = some fn) (hn:(fn.name == "runtime.NumGoroutine") = false) (hb:fn.body.isNone = false)
  (hv:EvL e args vs) (h:∀ v ρ' σ',R v ρ' σ'→K v ds ρ' σ'):wpS C.P ρ (execOp (Af e) ⟨dd,.call ⟨.value (.func f),args.toArray,tys⟩,ty,pos,af,g⟩) σ (NextH C K rd ds ρ):=by
 have hv':=hv.map
 show wpS C.P ρ (invoke (.fn (.func f) #[]) (#[] ++ args.toArray.map (Af e))) σ _
 show wpS C.P ρ (callFunc f ((#[] ++ args.toArray.map (Af e)) ++ #[])) σ _
 rw [Array.append_empty,Array.empty_append,hv']
 exact Mr hf hn hb (hc.mono h)
theorem Bm {K:Value→List Deferred→Ro→Own→Prop} {rd:Option Nat} {dd:Option Tmp} {f:FuncId} {fn:Func} {args:List Operand} {tys:Array TypeId} {vs:List Value} (hc:CallsH C f vs.toArray ρ σ (fun w ρ' σ'=>ρ' = ρ∧σ' = σ∧w = v)) (hf:C.P.funcs[f]? = some fn) (hn:(fn.name == "runtime.NumGoroutine") = false) (hb:fn.body.isNone = false)
  (hv:EvL e args vs) (h:K v ds ρ σ):wpS C.P ρ (execOp (Af e) ⟨dd,.call ⟨.value (.func f),args.toArray,tys⟩,ty,pos,af,g⟩) σ (NextH C K rd ds ρ) :=
 Cm hc hf hn hb hv (by rintro w ρ' σ' ⟨rfl,rfl,rfl⟩; exact h)
theorem Bo {z z':Int} (h:z = z') (h1:-9223372036854775808 ≤ z') (h2:z' < 9223372036854775808):IntKind.i64.wrap z = z':=by
 subst h
 rw [IntKind.wrap_i64]; omega
theorem wrE {z z':Int} (h:z = z':=by first | rfl | omega | (push_cast; rfl)) (h1:-9223372036854775808 ≤ z':=by omega) (h2:z' < 9223372036854775808:=by omega):IntKind.i64.wrap z = z':=Bo h h1 h2
theorem wrR {z z':Int} (h:z = z':=by rfl) (h1:-9223372036854775808 ≤ z':=by omega) (h2:z' < 9223372036854775808:=by omega):IntKind.i64.wrap z = z':=Bo h h1 h2
theorem Ed {α:Type} {xs:List α} {i:Nat} (h:i < xs.length):∃ a,xs[i]? = some a:=⟨xs[i],List.getElem?_eq_getElem h⟩
section
variable {P:Program}
theorem Bdj {k:IntKind} {p q z:Int} (hx:Af e x = .int k p) (hy:Af e y = .int k q) (h0:q ≠ 0) (hz:p.tmod q = z):Yld P ρ e (.binOp .rem t x y t') ty (.int k z) :=
 La hx hy Dh (by subst hz; simp only [binOp]; rw [if_neg (by simp)]; unfold Op.intDiv; rw [if_neg h0])
theorem Bik {k:IntKind} {p q z:Int} (hx:Af e x = .int k p) (hy:Af e y = .int k q) (h0:q ≠ 0) (hz:k.wrap (p.tdiv q) = z):Yld P ρ e (.binOp .quo t x y t') ty (.int k z) :=
 La hx hy Dh (by subst hz; simp only [binOp]; rw [if_neg (by simp)]; unfold Op.intDiv; rw [if_neg h0])
/-- Shifts of what is not negative,by less than a word. -/
theorem Lc {k k':IntKind} {p q:Nat} (hx:Af e x = .int k p) (hy:Af e y = .int k' q) (hk:k.bits = 64) (hp:p < 2 ^ 64):Yld P ρ e (.binOp .shr t x y t') ty (.int k ((p >>> q:Nat):Int)):=La hx hy Dh (by
 have e1:binOp .shr t (.int k p) (.int k' q) = Op.shift .shr k p k' q:=by simp [binOp]
 rw [e1]
 unfold Op.shift
 rw [if_neg (by omega)]
 have e2:(p:Int).fdiv (2 ^ (min (q:Int).toNat k.bits)) = ((p >>> q:Nat):Int):=by
  rw [hk]
  simp only [Int.toNat_natCast]
  have:((2:Int) ^ (min q 64)) = ((2 ^ (min q 64):Nat):Int):=by push_cast; rfl
  rw [this,Int.fdiv_eq_ediv_of_nonneg _ (Int.natCast_nonneg _),← Int.natCast_ediv,Nat.shiftRight_eq_div_pow]
  congr 1
  rcases Nat.le_total q 64 with h | h
  ·rw [Nat.min_eq_left h]
  ·rw [Nat.min_eq_right h,Nat.div_eq_of_lt hp,Nat.div_eq_of_lt (Nat.lt_of_lt_of_le hp (Nat.pow_le_pow_right (by omega) h))]
 simp only [e2])
theorem Md {k k':IntKind} {p q:Nat} {z:Int} (hx:Af e x = .int k p) (hy:Af e y = .int k' q) (hk:k.bits = 64) (hq:q ≤ 64) (hz:k.wrap ((p <<< q:Nat):Int) = z):Yld P ρ e (.binOp .shl t x y t') ty (.int k z):=La hx hy Dh (by
 have e1:binOp .shl t (.int k p) (.int k' q) = Op.shift .shl k p k' q:=by simp [binOp]
 rw [e1]
 unfold Op.shift
 rw [if_neg (by omega)]
 have e2:(p:Int) * 2 ^ (min (q:Int).toNat k.bits) = ((p <<< q:Nat):Int):=by
  rw [hk,Int.toNat_natCast,Nat.min_eq_left hq,Nat.shiftLeft_eq]; push_cast; rfl
 simp only [e2,hz])
end
theorem Agr {p q:Nat} (hp:p < 2 ^ 63):Op.intBits .and .i64 p q = pure (.int .i64 ((p &&& q:Nat):Int)):=by
 have h1:p &&& q ≤ p:=Nat.and_le_left
 simp only [Op.intBits]
 congr 2
 have:(BitVec.ofInt IntKind.i64.bits p &&& BitVec.ofInt IntKind.i64.bits q).toNat = p &&& q:=by
  show (BitVec.ofInt 64 p &&& BitVec.ofInt 64 q).toNat = _
  rw [BitVec.toNat_and,BitVec.toNat_ofInt,BitVec.toNat_ofInt]
  have e1:((p:Int) % (2 ^ 64:Nat)).toNat = p:=by omega
  have e2:((q:Int) % (2 ^ 64:Nat)).toNat = q % 2 ^ 64:=by omega
  rw [e1,e2,← Nat.and_two_pow_sub_one_eq_mod,← Nat.and_assoc,Nat.and_comm p q,Nat.and_assoc,Nat.and_two_pow_sub_one_eq_mod,Nat.mod_eq_of_lt (by omega)]
 rw [this]
 exact Bo rfl (by omega) (by omega)
theorem Akm {p q:Nat} (hp:p < 2 ^ 63) (hq:q < 2 ^ 63):Op.intBits .or .i64 p q = pure (.int .i64 ((p ||| q:Nat):Int)):=by
 have h1:p ||| q < 2 ^ 63:=Nat.or_lt_two_pow hp hq
 simp only [Op.intBits]
 congr 2
 have:(BitVec.ofInt IntKind.i64.bits p ||| BitVec.ofInt IntKind.i64.bits q).toNat = p ||| q:=by
  show (BitVec.ofInt 64 p ||| BitVec.ofInt 64 q).toNat = _
  rw [BitVec.toNat_or,BitVec.toNat_ofInt,BitVec.toNat_ofInt]
  have e1:((p:Int) % (2 ^ 64:Nat)).toNat = p:=by omega
  have e2:((q:Int) % (2 ^ 64:Nat)).toNat = q:=by omega
  rw [e1,e2]
 rw [this]
 exact Bo rfl (by omega) (by omega)
section
variable {P:Program}
theorem Qs {p q:Nat} (hx:Af e x = .int .i64 p) (hy:Af e y = .int .i64 q) (hp:p < 2 ^ 63):Yld P ρ e (.binOp .and t x y t') ty (.int .i64 ((p &&& q:Nat):Int)) :=
 La hx hy Dh (by simp only [binOp]; rw [if_neg (by simp)]; exact Agr hp)
theorem Acj {p q:Nat} (hx:Af e x = .int .i64 p) (hy:Af e y = .int .i64 q) (hp:p < 2 ^ 63) (hq:q < 2 ^ 63):Yld P ρ e (.binOp .or t x y t') ty (.int .i64 ((p ||| q:Nat):Int)) :=
 La hx hy Dh (by simp only [binOp]; rw [if_neg (by simp)]; exact Akm hp hq)
theorem Bbe {p q:ByteArray} (hx:Af e x = .string p) (hy:Af e y = .string q):Yld P ρ e (.binOp .eql t x y t') ty (.bool (p.toList == q.toList)):=La hx hy Ban (by simp only [binOp]; rfl)
/-- A string's byte. -/
theorem Ace {s:ByteArray} {k:IntKind} {q:Int} (i:Nat) (c:UInt8) (hT:P.underlying t = some .string) (hx:Af e x = .string s) (hy:Af e y = .int k q) (hq:q = (i:Int)) (hc:s[i]? = some c):Yld P ρ e (.index t x y) ty (.int .u8 (c.toNat:Int)) :=
 Mt (s:=Instr.index t (Af e x) (Af e y)) (fun _ _ _ _=>rfl) fun ρ' σ _=>by
 rw [hx,hy,hq]
 show wpS P ρ' ((underlying t).bind _) σ _
 rw [Ad]
 refine Az hT ?_
 simp only [Int.toNat_natCast,hc]
 rw [if_pos (by omega)]
 exact ⟨rfl,rfl⟩
end
theorem not_t {t:Bool} (h:t = true):(!t) = false:=by rw [h]; rfl
theorem not_eq_t {t:Bool} (h:(!t) = true):t = false:=by cases t; rfl; cases h
theorem not_eq_f {t:Bool} (h:(!t) = false):t = true:=by cases t; cases h; rfl
theorem Jr {α:Type} [BEq α] [LawfulBEq α] {p q:α} (h:(p == q) = true):p = q:=eq_of_beq h
theorem Jq {α:Type} [BEq α] [LawfulBEq α] {p q:α} (h:(p == q) = false):p ≠ q:=fun e=>by subst e; simp at h
theorem Ls {α:Type} [BEq α] [LawfulBEq α] {p q:α} (h:(p != q) = true):p ≠ q:=fun e=>by subst e; simp at h
theorem Jh {α:Type} [BEq α] [LawfulBEq α] {p q:α} (h:(p != q) = false):p = q:=by simpa using h
theorem Alc {s:ByteArray} {i:Nat} (h:i < s.size):∃ c,s[i]? = some c:=⟨s[i],by simp [h]⟩
def EvS (e:Env):List Nat→List Value→Prop
 | [],[]=>True
 | r :: rs,v :: vs=>e r = v∧EvS e rs vs
 | _,_=>False
theorem EvS.map {e:Env}:∀ {rs:List Nat} {vs:List Value},EvS e rs vs→rs.map e = vs
 | [],[],_=>rfl
 | r :: rs,v :: vs,⟨h1,h2⟩=>by rw [List.map_cons,h1,EvS.map h2]
 | [],_ :: _,h=>h.elim
 | _ :: _,[],h=>h.elim
theorem Mp {e:Env} {r r':Nat} {rs:List Nat} {v v':Value} {vs:List Value} (h:EvS e (r :: r' :: rs) (v :: v' :: vs)):Abp (r :: r' :: rs) e = .tuple (v :: v' :: vs).toArray:=by
 show Value.tuple (List.map e (r :: r' :: rs)).toArray = _
 rw [EvS.map h]
theorem Ik {P:Program} {el:TypeId} {cs:Array Value} {K:Addr→Own→Prop} (h:∀ r,K ⟨r,0,none⟩ ((r,.obj (.cells cs el (0,0))) :: σ)):wpS P ρ (newRow el cs) σ K:=by
 show wpS P ρ ((newObj _).bind _) σ K
 rw [Ad]
 exact .inl ⟨rfl,fun r=>h r⟩
theorem Gd {K:Value→List Deferred→Ro→Own→Prop} {rd:Option Nat} {s:Sem Value} (h:wpS C.P ρ s σ (fun v σ'=>K v ds ρ σ')):wpS C.P ρ (s.bind fun v=>Sem.pure (Next.value v)) σ (NextH C K rd ds ρ):=by
 rw [Ad]; exact h
/-- A box of what is owned from now on. -/
theorem Eb {K:Value→List Deferred→Ro→Own→Prop} {rd:Option Nat} {dd:Option Tmp} (hx:Af e x = v) (h:∀ r,K (.pointer (some ⟨r,0,none⟩)) ds ρ ((r,.obj (.cells v.cells t (0,0))) :: σ)) :
  wpS C.P ρ (execOp (Af e) ⟨dd,.box t x,ty,pos,af,g⟩) σ (NextH C K rd ds ρ):=by
 show wpS C.P ρ ((Instr.box t (Af e x)).bind _) σ _
 refine Gd ?_
 show wpS C.P ρ ((newVar t (Af e x)).bind _) σ _
 rw [Ad,hx]
 exact Ik fun r=>h r
/-- What is owned stands there for all to read. -/
theorem Ago {α:Type} [Dat α] {a:α} {v:Value} {ρ ρ':Ro} {r:Nat} {fz:Nat × Nat} {t:TypeId} (hv:Val ρ v a) (hle:Ro.le ρ ρ') (hr:ρ' r = some (.cells v.cells t fz)):At ρ' (.pointer (some ⟨r,0,none⟩)) a:=by
 obtain ⟨cs,h1,h2,h3⟩:=hv.cells
 exact ⟨r,0,_,_,_,cs,[],rfl,hr,Dat.mono hle h1,by simp [h3]⟩
theorem Bb {α:Type} [Dat α] {a:α} {v:Value} {r:Nat} {fz:Nat × Nat} {t:TypeId} (hv:Val ρ v a) (h:∀ ρ',Ro.le ρ ρ'→At ρ' (.pointer (some ⟨r,0,none⟩)) a→Ey C b n l₀ rest Q e ds ρ' σ):Ey C b n l₀ rest Q e ds ρ ((r,.obj (.cells v.cells t fz)) :: σ) :=
 Tu fun ρ' hle hr=>h ρ' hle (Ago hv hle hr)
theorem Nt {α:Type} [Dat α] {a:α} {v:Value} {r:Nat} {fz:Nat × Nat} {t:TypeId} {c:Code} (hv:Val ρ v a) (h:∀ ρ',Ro.le ρ ρ'→At ρ' (.pointer (some ⟨r,0,none⟩)) a→WpC C b n c Q' e ds ρ' σ):WpC C b n c Q' e ds ρ ((r,.obj (.cells v.cells t fz)) :: σ) :=
 Wo fun ρ' hle hr=>h ρ' hle (Ago hv hle hr)
end
end
section
open Go
section
variable {C:Ctx} {b:FB} {n:Nat} {l₀ rest:List Oper} {e:Env} {ds:List Deferred} {ρ:Ro} {σ:Own} {K:Value→List Deferred→Ro→Own→Prop} {rd:Option Nat} {dd:Option Tmp}
variable {ty:TypeId} {pos:String} {af:Array Edge} {g:Option (Nat × Bool)} {x y:Operand} {v p:Value} {t t':TypeId} {P:Program}
theorem Rs {s:Sem Unit} (h:wpS C.P ρ s σ (fun _ σ'=>K undef ds ρ σ')):wpS C.P ρ (s.bind fun _=>Sem.pure Next.skip) σ (NextH C K rd ds ρ):=by
 rw [Ad]; exact h
theorem Jz {z:Value} (h:Fw P t z) {Q:Value→Own→Prop} (hq:Q z σ):wpS P ρ (zeroValue t) σ Q:=by
 obtain ⟨i,h1,h2⟩:=h
 show wpS P ρ ((typeInfo t).bind _) σ Q
 rw [Ad]
 refine Gj h1 ?_
 rw [h2]; exact hq
/-- A new variable. -/
theorem Ct {z:Value} (hz:Fw C.P t z) (h:∀ r,K (.pointer (some ⟨r,0,none⟩)) ds ρ ((r,.obj (.cells z.cells t (0,0))) :: σ)):wpS C.P ρ (execOp (Af e) ⟨dd,.alloc t,ty,pos,af,g⟩) σ (NextH C K rd ds ρ):=by
 show wpS C.P ρ ((Instr.alloc t true (.tuple #[])).bind _) σ _
 refine Gd ?_
 show wpS C.P ρ ((zeroValue t).bind _) σ _
 rw [Ad]
 refine Jz hz ?_
 show wpS C.P ρ ((newVar t z).bind _) σ _
 rw [Ad]
 exact Ik fun r=>h r
def over:List Value→Nat→List Value→List Value
 | c,_,[]=>c
 | c,off,v :: vs=>over (c.set off v) (off + 1) vs
theorem Qe:∀ (vs c:List Value) (off:Nat),off + vs.length ≤ c.length→over c off vs = c.take off ++ (vs ++ c.drop (off + vs.length))
 | [],c,off,h=>by simp [over]
 | v :: vs,c,off,h=>by
  simp only [List.length_cons] at h
  have hlen:off < c.length:=by omega
  rw [over,Qe vs (c.set off v) (off + 1) (by rw [List.length_set]; omega)]
  have e1:(c.set off v).take (off + 1) = c.take off ++ [v]:=by
   rw [List.take_add_one,List.take_set_of_le (Nat.le_refl _),List.getElem?_set_self hlen]; rfl
  have e2:(c.set off v).drop (off + 1 + vs.length) = c.drop (off + (v :: vs).length):=by
   rw [List.drop_set_of_lt (by omega)]
   congr 1
   simp only [List.length_cons]; omega
  rw [e1,e2]; simp
theorem Aio {vs c:List Value} (h:vs.length = c.length):over c 0 vs = vs:=by
 rw [Qe vs c 0 (by omega)]
 simp [h]
theorem fz0 (c:Array Value) (t:TypeId) (i:Nat):Lv (.cells c t (0,0)) i = false:=by
 simp [Lv]
/-- Cells are stored,one after the other. -/
theorem Ns {Q:Unit→Own→Prop} {r i:Nat}:∀ (vs:List Value) (a:Addr) (k:Nat) (c:List Value) (σ:Own),a.block = r→a.spot = none→(∀ v ∈ vs,single v = true)→σ[i]? = some (r,.obj (.cells c.toArray t (0,0)))→a.off + k + vs.length ≤ c.length →
  Q () (σ.set i (r,.obj (.cells (over c (a.off + k) vs).toArray t (0,0))))→wpS P ρ (storeCells a vs k) σ Q:=by
 intro vs
 induction vs with
 | nil =>
  intro a k c σ _ _ _ hi _ hq
  have:σ.set i (r,Res.obj (.cells (over c (a.off + k) []).toArray t (0,0))) = σ:=by
   apply List.ext_getElem?
   intro j
   rw [List.getElem?_set]
   split
   ·rename_i e; subst e
    split
    ·exact hi.symm
    ·rename_i h; rw [List.getElem?_eq_none (by omega)]
   ·rfl
  rw [this] at hq
  exact hq
 | cons v vs ih =>
  intro a k c σ ha hs hv hi hl hq
  simp only [List.length_cons] at hl
  show wpS P ρ ((store (a.add k) v).bind _) σ Q
  rw [Ad,Agj a hs]
  refine ⟨rfl,rfl,hv v (List.mem_cons_self ..),i,c.toArray,t,(0,0),by rw [ha]; exact hi,by simp; omega,fz0 _ _ _,?_⟩
  have hlt:i < σ.length:=by
   rcases Nat.lt_or_ge i σ.length with h | h
   ·exact h
   ·rw [List.getElem?_eq_none h] at hi; cases hi
  refine ih a (k + 1) (c.set (a.off + k) v) _ ha hs (fun w hw=>hv w (List.mem_cons_of_mem _ hw)) ?_ (by rw [List.length_set]; omega) ?_
  ·rw [List.getElem?_set]
   simp only [if_true,hlt]
   rw [ha]; simp
  ·rw [List.set_set]
   rw [over] at hq
   rw [show a.off + (k + 1) = a.off + k + 1 by omega]
   exact hq
/-- A variable,or a part of one,is stored. -/
theorem Li {r off i:Nat} {c vs c':List Value} {n':Nat} (hz:∃ i,C.P.info? t = some i∧i.size = n') (hx:Af e x = .pointer (some ⟨r,off,none⟩)) (hy:Af e y = v) (hv:v.cells = vs.toArray) (hn:vs.length = n') (hs:∀ w ∈ vs,single w = true)
  (hi:σ[i]? = some (r,.obj (.cells c.toArray t' (0,0)))) (hl:off + vs.length ≤ c.length) (hc:over c off vs = c') (h:K undef ds ρ (σ.set i (r,.obj (.cells c'.toArray t' (0,0))))) :
  wpS C.P ρ (execOp (Af e) ⟨dd,.store t x y,ty,pos,af,g⟩) σ (NextH C K rd ds ρ):=by
 show wpS C.P ρ ((Instr.storeAt t (Af e x) (Af e y)).bind _) σ _
 refine Rs ?_
 rw [hx,hy]
 show wpS C.P ρ (storeVar t ⟨r,off,none⟩ v) σ _
 show wpS C.P ρ ((sizeOf t).bind _) σ _
 rw [Ad]
 refine Dx hz ?_
 have hsz:v.cells.size = n':=by rw [hv]; simpa using hn
 show wpS C.P ρ (if v.cells.size ≠ n' then _ else storeCells ⟨r,off,none⟩ v.cells.toList) σ _
 rw [if_neg (by simpa using hsz),hv]
 refine Ns vs ⟨r,off,none⟩ 0 c σ rfl rfl hs hi (by simpa using hl) ?_
 simp only [Nat.add_zero,hc]
 exact h
/-- A single cell that is owned is read. -/
theorem Dt {r off i:Nat} {c:List Value} {fz:Nat × Nat} (hT:∃ d,C.P.underlying t = some d∧Qv d = false) (hx:Af e x = .pointer (some ⟨r,off,none⟩)) (hi:σ[i]? = some (r,.obj (.cells c.toArray t' fz))) (hc:c[off]? = some v) (h:K v ds ρ σ) :
  wpS C.P ρ (execOp (Af e) ⟨dd,.load t x,ty,pos,af,g⟩) σ (NextH C K rd ds ρ):=by
 show wpS C.P ρ ((Instr.loadAt t (Af e x)).bind _) σ _
 refine Gd ?_
 rw [hx]
 show wpS C.P ρ (loadVar t ⟨r,off,none⟩) σ _
 show wpS C.P ρ ((isAgg t).bind _) σ _
 rw [Ad]
 refine Hi hT ?_
 exact ⟨rfl,rfl,_,v,.inr (List.mem_of_getElem? hi),by simpa [Gy] using hc,h⟩
/-- Cells that are owned are read together. -/
theorem Xo {r off i n':Nat} {c cs rs:List Value} {fz:Nat × Nat} (hT:∃ d,C.P.underlying t = some d∧Qv d = true) (hz:∃ i,C.P.info? t = some i∧i.size = n') (hx:Af e x = .pointer (some ⟨r,off,none⟩)) (hi:σ[i]? = some (r,.obj (.cells c.toArray t' fz)))
  (hc:c.drop off = cs ++ rs) (hn:cs.length = n') (h:K (.agg cs.toArray) ds ρ σ):wpS C.P ρ (execOp (Af e) ⟨dd,.load t x,ty,pos,af,g⟩) σ (NextH C K rd ds ρ):=by
 show wpS C.P ρ ((Instr.loadAt t (Af e x)).bind _) σ _
 refine Gd ?_
 rw [hx]
 show wpS C.P ρ ((isAgg t).bind _) σ _
 rw [Ad]
 refine Hi hT ?_
 show wpS C.P ρ ((sizeOf t).bind fun n=>(loadCells ⟨r,off,none⟩ n).bind _) σ _
 rw [Ad]
 refine Dx hz ?_
 rw [Ad,← hn]
 refine Ff rfl (.inr (List.mem_of_getElem? hi)) cs 0 #[] (fun j w hj=>?_) ?_
 ·have:(c.drop off)[j]? = some w:=by rw [hc,List.getElem?_append_left]; exact hj; exact (List.getElem?_eq_some_iff.1 hj).1
  rw [List.getElem?_drop] at this
  simpa [Gy] using this
 ·have e1:(#[]:Array Value) ++ cs.toArray = cs.toArray:=by simp
  rw [e1]; exact h
/-- A field's place,by its offset. -/
theorem Ajt {r off off0 i:Nat} {fs:Array Field} {f:Field} {n':Nat} (hT:P.underlying t = some (.struct fs)) (hi:fs[i]? = some f) (ho:f.offset = off0) (hF:∃ i,P.info? f.type = some i∧i.size = n') (hk:n' ≠ 0) (hx:Af e x = .pointer (some ⟨r,off,none⟩)) {off':Nat} (ho':off + off0 = off') :
  Yld P ρ e (.fieldAddr t x i) ty (.pointer (some ⟨r,off',none⟩)):=Mt (s:=Instr.fieldAt t (Af e x) i) (fun _ _ _ _=>rfl) fun ρ' σ _=>by
 rw [hx]
 show wpS P ρ' ((underlying t).bind _) σ _
 rw [Ad]
 refine Az hT ?_
 simp only [hi]
 show wpS P ρ' ((fieldPlace ⟨r,off,none⟩ f).bind _) σ _
 rw [Ad]
 show wpS P ρ' ((sizeOf f.type).bind _) σ _
 rw [Ad]
 refine Dx hF ?_
 rw [if_neg hk,ho,Ld,ho']
 exact ⟨rfl,rfl⟩
/-- An element's place in an array's variable. -/
theorem Aju {r off len k':Nat} {el:TypeId} {k:IntKind} {q:Int} (i:Nat) (hT:P.underlying t = some (.array len el)) (hE:∃ i,P.info? el = some i∧i.size = k') (hx:Af e x = .pointer (some ⟨r,off,none⟩)) (hy:Af e y = .int k q) (hq:q = (i:Int)) (hi:i < len) {off':Nat} (ho:off + i * k' = off') :
  Yld P ρ e (.indexAddr t x y) ty (.pointer (some ⟨r,off',none⟩)):=Mt (s:=Instr.indexAt t (Af e x) (Af e y)) (fun _ _ _ _=>rfl) fun ρ' σ _=>by
 rw [hx,hy,hq]
 show wpS P ρ' ((underlying t).bind _) σ _
 rw [Ad]
 refine Az hT ?_
 show wpS P ρ' ((underlying t).bind _) σ _
 rw [Ad]
 refine Az hT ?_
 simp only []
 rw [if_pos ⟨by omega,by omega⟩]
 show wpS P ρ' ((sizeOf el).bind _) σ _
 rw [Ad]
 refine Dx hE ?_
 rw [show (i:Int).toNat = i by simp,Ld,ho]; exact ⟨rfl,rfl⟩
/-- An element's place in a slice,by its block. -/
theorem Ajv {r off len cap k':Nat} {el:TypeId} {k:IntKind} {q:Int} (i:Nat) (hT:P.underlying t = some (.slice el)) (hE:∃ i,P.info? el = some i∧i.size = k') (hx:Af e x = .slice (some ⟨r,off,none⟩) len cap) (hy:Af e y = .int k q) (hq:q = (i:Int)) (hi:i < len) {off':Nat} (ho:off + i * k' = off') :
  Yld P ρ e (.indexAddr t x y) ty (.pointer (some ⟨r,off',none⟩)):=Mt (s:=Instr.indexAt t (Af e x) (Af e y)) (fun _ _ _ _=>rfl) fun ρ' σ _=>by
 rw [hx,hy,hq]
 show wpS P ρ' ((underlying t).bind _) σ _
 rw [Ad]
 refine Az hT ?_
 show wpS P ρ' ((underlying t).bind _) σ _
 rw [Ad]
 refine Az hT ?_
 simp only []
 rw [if_pos ⟨by omega,by omega⟩]
 show wpS P ρ' ((sizeOf el).bind _) σ _
 rw [Ad]
 refine Dx hE ?_
 rw [show (i:Int).toNat = i by simp,Ld,ho]; exact ⟨rfl,rfl⟩
end
section
variable {C:Ctx} {b:FB} {n:Nat} {l₀ rest:List Oper} {Q:Env→List Deferred→Ro→Own→Prop} {e:Env} {ds:List Deferred} {ρ:Ro} {σ:Own} {K:Value→List Deferred→Ro→Own→Prop} {rd:Option Nat} {dd:Option Tmp}
variable {ty:TypeId} {pos:String} {af:Array Edge} {g:Option (Nat × Bool)} {x y:Operand} {v p:Value} {t t':TypeId}
/-- The newest variable,which has its size,gets its value. -/
theorem Dv {α:Type} [Dat α] {a:α} {r:Nat} {c:List Value} (hT:GoTy C.P t α) (hx:Af e x = .pointer (some ⟨r,0,none⟩)) (hy:Af e y = v) (hv:Val ρ v a) (hc:c.length = Dat.k α)
  (h:K undef ds ρ ((r,.obj (.cells v.cells t' (0,0))) :: σ)):wpS C.P ρ (execOp (Af e) ⟨dd,.store t x y,ty,pos,af,g⟩) ((r,.obj (.cells c.toArray t' (0,0))) :: σ) (NextH C K rd ds ρ):=by
 obtain ⟨cs,h1,h2,h3⟩:=hv.cells
 refine Li (i:=0) (off:=0) (vs:=cs) (c:=c) (n':=Dat.k α) hT.info hx hy h3 (Dat.len h1) (Dat.sgl h1) rfl (by rw [Dat.len h1,hc]; omega) (Aio (by rw [Dat.len h1,hc])) ?_
 rw [h3] at h
 exact h
end
end
section
open Go
/-- These cells are the elements' cells,one after the other. -/
def Rows {α:Type} [Dat α] (ρ:Ro):List Value→List α→Prop
 | cs,[]=>cs = []
 | cs,x :: xs=>∃ c1 c2,cs = c1 ++ c2∧Dat.rep ρ c1 x∧Rows ρ c2 xs
section
variable {α:Type} [Dat α] {ρ ρ':Ro}
theorem Rows.mono (h:Ro.le ρ ρ'):∀ {xs:List α} {cs:List Value},Rows ρ cs xs→Rows ρ' cs xs
 | [],_,h'=>h'
 | _ :: _,_,⟨c1,c2,h1,h2,h3⟩=>⟨c1,c2,h1,Dat.mono h h2,Rows.mono h h3⟩
theorem Rows.len:∀ {xs:List α} {cs:List Value},Rows ρ cs xs→cs.length = xs.length * Dat.k α
 | [],_,h=>by rw [show _ = [] from h]; simp
 | x :: xs,_,⟨c1,c2,h1,h2,h3⟩=>by
  rw [h1,List.length_append,Dat.len h2,Rows.len h3,List.length_cons,Nat.add_mul,Nat.one_mul,Nat.add_comm]
theorem Rows.sgl:∀ {xs:List α} {cs:List Value},Rows ρ cs xs→∀ c ∈ cs,single c = true
 | [],_,h,c,hc=>by rw [show _ = [] from h] at hc; cases hc
 | x :: xs,_,⟨c1,c2,h1,h2,h3⟩,c,hc=>by
  rw [h1,List.mem_append] at hc
  exact hc.elim (Dat.sgl h2 c) (Rows.sgl h3 c)
theorem Rows.append:∀ {xs ys:List α} {cs cs':List Value},Rows ρ cs xs→Rows ρ cs' ys→Rows ρ (cs ++ cs') (xs ++ ys)
 | [],_,_,_,h,h'=>by rw [show _ = [] from h]; exact h'
 | x :: xs,_,_,_,⟨c1,c2,h1,h2,h3⟩,h'=>⟨c1,c2 ++ _,by rw [h1,List.append_assoc],h2,Rows.append h3 h'⟩
theorem Rows.get:∀ {xs:List α} {cs:List Value},Rows ρ cs xs→∀ {i:Nat} {x:α},xs[i]? = some x→∃ c post,cs.drop (i * Dat.k α) = c ++ post∧Dat.rep ρ c x
 | [],_,_,i,x,hx=>by simp at hx
 | y :: ys,_,⟨c1,c2,h1,h2,h3⟩,i,x,hx=>by
  cases i with
  | zero =>
   simp only [List.getElem?_cons_zero,Option.some.injEq] at hx
   subst hx
   exact ⟨c1,c2,by simp [h1],h2⟩
  | succ i =>
   obtain ⟨c,post,h4,h5⟩:=h3.get (i:=i) (x:=x) (by simpa using hx)
   refine ⟨c,post,?_,h5⟩
   rw [h1,Nat.add_mul,Nat.one_mul,Nat.add_comm,← List.drop_drop]
   have:(c1 ++ c2).drop (Dat.k α) = c2:=by rw [← Dat.len h2,List.drop_left]
   rw [this]; exact h4
/-- A slice whose elements' cells stand in a block that is only read. -/
theorem Zv {r cap:Nat} {cs rest:List Value} {t:TypeId} {fz:Nat × Nat} {xs:List α} (hr:ρ r = some (.cells (cs ++ rest).toArray t fz)) (hc:Rows ρ cs xs) (hl:xs.length < 2 ^ 60) (hcap:xs.length ≤ cap):Val ρ (.slice (some ⟨r,0,none⟩) xs.length cap) xs:=by
 refine Cs.2 ⟨_,_,_,rfl,rfl,hl,hcap,fun i x hx=>⟨r,0,rfl,?_⟩⟩
 obtain ⟨c,post,h4,h5⟩:=hc.get hx
 have hlt:=(List.getElem?_eq_some_iff.1 hx).1
 refine ⟨r,0 + i * Dat.k α,_,_,_,c,post ++ rest,rfl,hr,h5,?_⟩
 simp only [Nat.zero_add,List.toList_toArray]
 have hle:i * Dat.k α ≤ cs.length:=by rw [hc.len]; exact Nat.mul_le_mul_right _ (by omega)
 rw [List.drop_append_of_le_length hle,h4,List.append_assoc]
theorem Gx:Val ρ (.slice none 0 0) ([]:List α):=Cs.2 ⟨none,0,0,rfl,rfl,by omega,Nat.le_refl _,fun i x hx=>by simp at hx⟩
end
/-- Values of elements. -/
def Aam {α:Type} [Dat α] (ρ:Ro):List Value→List α→Prop
 | [],[]=>True
 | v :: vs,x :: xs=>Val ρ v x∧Aam ρ vs xs
 | _,_=>False
section
variable {C:Ctx} {b:FB} {n:Nat} {l₀ rest:List Oper} {e:Env} {ds:List Deferred} {ρ:Ro} {σ:Own} {K:Value→List Deferred→Ro→Own→Prop} {rd:Option Nat} {dd:Option Tmp}
variable {ty:TypeId} {pos:String} {af:Array Edge} {g:Option (Nat × Bool)} {x y:Operand} {v p:Value} {t t':TypeId} {P:Program}
theorem Pd:∀ (vs:List Value) (c:List Value) (off k:Nat),(vs.zipIdx k).foldl (fun (cs:Array Value) (p:Value × Nat)=>cs.setIfInBounds (off + p.2) p.1) c.toArray = (over c (off + k) vs).toArray
 | [],c,off,k=>rfl
 | v :: vs,c,off,k=>by
  simp only [List.zipIdx_cons,List.foldl_cons]
  have:(c.toArray.setIfInBounds (off + k) v) = (c.set (off + k) v).toArray:=by simp
  rw [this,Pd vs _ off (k + 1),over]
  rfl
/-- Given elements,one after the other,fill their slice. -/
theorem Vq {α:Type} [Dat α]:∀ (vs:List Value) (xs:List α) (i:Nat) (pre suf:List Value),Aam ρ vs xs→pre.length = i * Dat.k α→suf.length = xs.length * Dat.k α →
  ∃ cs,Rows ρ cs xs∧Instr.fill (fun i=>some (i * Dat.k α,Dat.k α)) (pre ++ suf).toArray ((vs.zipIdx i).map fun p=>(p.2,p.1)) = some (pre ++ cs).toArray
 | [],[],i,pre,suf,_,_,hs=>by
  refine ⟨[],rfl,?_⟩
  have:suf = []:=List.eq_nil_of_length_eq_zero (by simpa using hs)
  simp [Instr.fill,this]
 | v :: vs,y :: ys,i,pre,suf,⟨hv,hvs⟩,hp,hs=>by
  obtain ⟨c,h1,h2,h3⟩:=hv.cells
  have hlen:=Dat.len h1
  simp only [List.length_cons,Nat.add_mul,Nat.one_mul] at hs
  simp only [List.zipIdx_cons,List.map_cons,Instr.fill]
  have hsz:v.cells.size = Dat.k α:=by rw [h3]; simpa using hlen
  have hcond:(decide (v.cells.size ≠ Dat.k α) || decide (i * Dat.k α + v.cells.size > (pre ++ suf).toArray.size)) = false:=by
   simp only [hsz,Bool.or_eq_false_iff,decide_eq_false_iff_not]
   refine ⟨by simp,?_⟩
   simp only [List.size_toArray,List.length_append,hp,hs]; omega
  rw [if_neg (by simpa using hcond)]
  have hfold:v.cells.zipIdx.foldl (fun (cs:Array Value) (p:Value × Nat)=>cs.setIfInBounds (i * Dat.k α + p.2) p.1) (pre ++ suf).toArray = ((pre ++ c) ++ suf.drop (Dat.k α)).toArray:=by
   rw [h3]
   have:=Pd c (pre ++ suf) (i * Dat.k α) 0
   rw [← Array.foldl_toList]
   simp only [Array.toList_zipIdx,List.toList_toArray]
   rw [this,Nat.add_zero,Qe c (pre ++ suf) (i * Dat.k α) (by rw [List.length_append,hp,hs,hlen]; omega)]
   rw [← hp,List.take_left,hlen,← List.drop_drop,List.drop_left,List.append_assoc]
  obtain ⟨cs,h4,h5⟩:=Vq vs ys (i + 1) (pre ++ c) (suf.drop (Dat.k α)) hvs (by rw [List.length_append,hp,hlen,Nat.add_mul,Nat.one_mul]) (by rw [List.length_drop,hs]; omega)
  refine ⟨c ++ cs,⟨c,cs,rfl,h1,h4⟩,?_⟩
  rw [← List.append_assoc,← h5]
  congr 1
 | [],_ :: _,_,_,_,h,_,_=>h.elim
 | _ :: _,[],_,_,_,h,_,_=>h.elim
/-- A slice of given elements. -/
theorem Bi {α:Type} [Dat α] {xs:List α} {el:TypeId} {z:Value} {ps:List (Nat × Operand)} {vs:List Value} {len:Nat} (hT:C.P.underlying t = some (.slice el)) (hE:GoTy C.P el α) (hz:Fw C.P el z) (hzk:z.cells.size = Dat.k α) (hk:Dat.k α ≠ 0)
  (hp:ps.map (fun p=>(p.1,Af e p.2)) = (vs.zipIdx.map fun p=>(p.2,p.1))) (hv:Aam ρ vs xs) (hlen:xs.length = len) (hsm:len * Dat.k α ≤ 2 ^ 24)
  (h:∀ r cs,Rows ρ cs xs→K (.slice (some ⟨r,0,none⟩) len len) ds ρ ((r,.obj (.cells cs.toArray el (0,0))) :: σ)) :
  wpS C.P ρ (execOp (Af e) ⟨dd,.buildSlice t len ps.toArray,ty,pos,af,g⟩) σ (NextH C K rd ds ρ):=by
 have e0:execOp (Af e) ⟨dd,.buildSlice t len ps.toArray,ty,pos,af,g⟩ = (Instr.buildSlice t len (ps.toArray.map fun (p:Nat × Operand)=>(p.1,Af e p.2))).bind fun v=>Sem.pure (Next.value v):=rfl
 rw [e0]
 refine Gd ?_
 have hps:(ps.toArray.map fun (p:Nat × Operand)=>(p.1,Af e p.2)) = (vs.zipIdx.map fun p=>(p.2,p.1)).toArray:=by
  rw [← hp]; simp
 rw [hps]
 unfold Instr.buildSlice
 show wpS C.P ρ ((underlying t).bind _) σ _
 rw [Ad]
 refine Az hT ?_
 show wpS C.P ρ ((sizeOf el).bind _) σ _
 rw [Ad]
 refine Dx hE.info ?_
 dsimp only
 rw [if_neg (by omega)]
 have rest:∀ (zz:Array Value),∃ cs,Rows ρ cs xs∧Instr.fill (fun i=>some (i * Dat.k α,Dat.k α)) ((Array.range (len * Dat.k α)).map fun i=>zz[i % zz.size]!) (vs.zipIdx.map fun p=>(p.2,p.1)) = some cs.toArray:=fun zz=>by
  obtain ⟨cs,h1,h2⟩:=Vq (ρ:=ρ) vs xs 0 [] ((List.range (len * Dat.k α)).map fun i=>zz[i % zz.size]!) hv (by simp) (by simp [hlen])
  refine ⟨cs,h1,?_⟩
  have e1:((Array.range (len * Dat.k α)).map fun i=>zz[i % zz.size]!) = ([] ++ (List.range (len * Dat.k α)).map fun i=>zz[i % zz.size]!).toArray:=by
   apply Array.ext'
   simp
  rw [e1,h2]; simp
 split
 ·obtain ⟨cs,h1,h2⟩:=rest #[]
  simp only [pure_bind,h2]
  show wpS C.P ρ ((newRow el cs.toArray).bind _) σ _
  rw [Ad]
  exact Ik fun r=>h r cs h1
 ·show wpS C.P ρ ((zeroValue el).bind _) σ _
  rw [Ad]
  refine Jz hz ?_
  obtain ⟨cs,h1,h2⟩:=rest z.cells
  simp only [pure_bind,h2]
  show wpS C.P ρ ((newRow el cs.toArray).bind _) σ _
  rw [Ad]
  exact Ik fun r=>h r cs h1
/-- A slice that is being made: it owns its block (newest first; what it had before is forgotten later). -/
def Grow {α:Type} [Dat α] (ρ:Ro) (el:TypeId) (v:Value) (xs:List α) (gr:Own):Prop :=
 (∀ p ∈ gr,∃ o,p.2 = Res.obj o)∧xs.length < 2 ^ 60 ∧
 ((v = .slice none 0 0∧xs = [])∨∃ r cap cs rs gb,v = .slice (some ⟨r,0,none⟩) xs.length cap∧gr = (r,.obj (.cells (cs ++ rs).toArray el (0,0))) :: gb∧Rows ρ cs xs∧(cs ++ rs).length = cap * Dat.k α∧xs.length ≤ cap)
theorem Grow.mono {α:Type} [Dat α] {ρ ρ':Ro} (hle:Ro.le ρ ρ') {el:TypeId} {v:Value} {xs:List α} {gr:Own} (h:Grow ρ el v xs gr):Grow ρ' el v xs gr :=
 ⟨h.1,h.2.1,h.2.2.imp id fun ⟨r,cap,cs,rs,gb,h1,h2,h3,h4,h5⟩=>⟨r,cap,cs,rs,gb,h1,h2,h3.mono hle,h4,h5⟩⟩
theorem Hm {α:Type} [Dat α] {ρ:Ro} {el:TypeId}:Grow ρ el (.slice none 0 0) ([]:List α) []:=⟨fun p hp=>(by cases hp),by simp,.inl ⟨rfl,rfl⟩⟩
theorem Grow.len {α:Type} [Dat α] {ρ:Ro} {el:TypeId} {v:Value} {xs:List α} {gr:Own} (h:Grow ρ el v xs gr):xs.length < 2 ^ 60:=h.2.1
/-- The cells of what is appended. -/
theorem Uw {α:Type} [Dat α] {ρ:Ro} {σ:Own} {P:Program} {v:Value} {xs:List α} {Q:Array Value→Own→Prop} (hv:Val ρ v xs) (h:∀ cs,Rows ρ cs xs→Q cs.toArray σ):wpS P ρ (Builtin.firstCells (Dat.k α) xs.length v) σ Q:=by
 obtain ⟨a,len,cap,h1,h2,h3,_,h4⟩:=Cs.1 hv
 subst h1
 cases hx:xs with
 | nil =>
  subst hx
  have:=h [] rfl
  cases a with
  | none=>exact this
  | some ad =>
   show wpS P ρ (loadCells ad (0 * Dat.k α)) σ Q
   rw [Nat.zero_mul]; exact this
 | cons y ys =>
  rw [← hx]
  obtain ⟨b,off,h5,_⟩:=h4 0 y (by rw [hx]; rfl)
  subst h5
  -- the cells,element by element
  have key:∀ (m:Nat),m ≤ xs.length→∃ cs:List Value,Rows ρ cs (xs.drop (xs.length - m))∧∀ j w,cs[j]? = some w→∃ o,ρ b = some o∧Gy o (off + (xs.length - m) * Dat.k α + j) = some w:=by
   intro m
   induction m with
   | zero=>intro _; exact ⟨[],by simp [Rows],fun j w hj=>by simp at hj⟩
   | succ m ih =>
    intro hm
    obtain ⟨cs,h6,h7⟩:=ih (by omega)
    obtain ⟨z,hz⟩:=Ed (xs:=xs) (i:=xs.length - (m + 1)) (by omega)
    obtain ⟨b',off',h8,bl2,off2,c,t',fz,c1,rs,h9,h10,h11,h12⟩:=h4 _ z hz
    cases h8
    cases h9
    refine ⟨c1 ++ cs,?_,fun j w hj=>?_⟩
    ·have e1:xs.drop (xs.length - (m + 1)) = z :: xs.drop (xs.length - m):=by
      rw [List.drop_eq_getElem_cons (by omega)]
      congr 1
      ·have:=List.getElem?_eq_some_iff.1 hz; exact this.2
      ·congr 1; omega
     rw [e1]
     exact ⟨c1,cs,rfl,h11,h6⟩
    ·rw [List.getElem?_append] at hj
     have hl:=Dat.len h11
     split at hj
     ·rename_i hlt
      refine ⟨_,h10,?_⟩
      have:(c.toList.drop (off + (xs.length - (m + 1)) * Dat.k α))[j]? = some w:=by rw [h12,List.getElem?_append_left hlt]; exact hj
      rw [List.getElem?_drop] at this
      simpa [Gy] using this
     ·rename_i hge
      obtain ⟨o,h13,h14⟩:=h7 _ w hj
      refine ⟨o,h13,?_⟩
      rw [← h14]
      congr 1
      rw [hl] at hge ⊢
      have:(xs.length - m) * Dat.k α = (xs.length - (m + 1)) * Dat.k α + Dat.k α:=by rw [show xs.length - m = (xs.length - (m + 1)) + 1 by omega,Nat.add_mul,Nat.one_mul]
      omega
  obtain ⟨cs,h6,h7⟩:=key xs.length (Nat.le_refl _)
  simp only [Nat.sub_self,List.drop_zero,Nat.zero_mul,Nat.add_zero] at h6 h7
  show wpS P ρ (loadCells ⟨b,off,none⟩ (xs.length * Dat.k α)) σ Q
  rw [← h6.len]
  cases hcs:cs with
  | nil=>have:=h cs h6; rw [hcs] at this; exact this
  | cons w ws =>
   rw [← hcs]
   obtain ⟨o,h8,_⟩:=h7 0 w (by rw [hcs]; rfl)
   refine Ff (a:=⟨b,off,none⟩) rfl (.inl h8) cs 0 #[] (fun j u hj=>?_) ?_
   ·obtain ⟨o',h9,h10⟩:=h7 j u hj
    rw [h8] at h9; cases h9
    simpa using h10
   ·have e1:(#[]:Array Value) ++ cs.toArray = cs.toArray:=by simp
    rw [e1]; exact h cs h6
theorem Vt:∀ (r newLen c:Nat),c < newLen→Builtin.growBy newLen r c ≤ 2 * newLen + 1000
 | 0,newLen,c,h=>by simp only [Builtin.growBy]; omega
 | r + 1,newLen,c,h=>by
  simp only [Builtin.growBy]
  split
  ·omega
  ·by_cases h2:c + (c + 768) / 4 < newLen
   ·exact Vt r newLen _ h2
   ·have:∀ k d,newLen ≤ d→d ≤ 2 * newLen + 1000→Builtin.growBy newLen k d ≤ 2 * newLen + 1000:=fun k d h3 h4=>by
     cases k with
     | zero=>simpa [Builtin.growBy] using h4
     | succ k=>simp only [Builtin.growBy]; rw [if_pos h3]; exact h4
    exact this r _ (by omega) (by omega)
theorem Alk {need cap:Nat} (h:cap < need):Builtin.nextslicecap need cap ≤ 2 * need + 1000:=by
 unfold Builtin.nextslicecap
 split
 ·omega
 ·split
  ·omega
  ·exact Vt 4 need cap h
/-- The newest growing slice gets more elements. -/
theorem Gc {α:Type} [Dat α] {xs ys:List α} {gr:Own} {el el':TypeId} {z w:Value} {ti:TypeInfo} (hT:C.P.underlying t = some (.slice el)) (hT':C.P.underlying t' = some (.slice el')) (hi:C.P.info? el = some ti) (hik:ti.size = Dat.k α) (hib:ti.bytes ≤ 1000) (hz:ti.zero = some z) (hzk:z.cells.size = Dat.k α)
  (hx:Af e x = v) (hy:Af e y = w) (hv:Grow ρ el v xs gr) (hw:Val ρ w ys) (hlen:xs.length + ys.length < 2 ^ 30)
  (h:∀ v' gr',Grow ρ el v' (xs ++ ys) gr'→K v' ds ρ (gr' ++ σ)):wpS C.P ρ (execOp (Af e) ⟨dd,.call ⟨.builtin .append,#[x,y],#[t,t']⟩,ty,pos,af,g⟩) (gr ++ σ) (NextH C K rd ds ρ):=by
 have hargs:(#[x,y]:Array Operand).map (Af e) = #[v,w]:=by simp [hx,hy]
 show wpS C.P ρ (builtin .append #[t,t'] ty ((#[x,y]:Array Operand).map fun | .const _=>true | _=>false) ((#[x,y]:Array Operand).map (Af e))) _ _
 rw [hargs]
 show wpS C.P ρ ((Builtin.append_ #[t,t'] ty #[v,w]).bind fun v=>Sem.pure (Next.value v)) _ _
 refine Gd ?_
 obtain ⟨ya,yl,yc,hw1,hw2,_,_,_⟩:=Cs.1 hw
 obtain ⟨va,vl,vc,hvs⟩:∃ va vl vc,v = .slice va vl vc∧vl = xs.length:=by
  rcases hv.2.2 with ⟨h1,h2⟩ | ⟨r,cap,cs,rs,gb,h1,_⟩
  ·exact ⟨none,0,0,h1,by rw [h2]; rfl⟩
  ·exact ⟨_,_,_,h1,rfl⟩
 obtain ⟨hvs,hvl⟩:=hvs
 subst hvl
 have hGo:∀ (Q:Value→Own→Prop),(∀ v' gr',Grow ρ el v' (xs ++ ys) gr'→Q v' (gr' ++ σ))→wpS C.P ρ (Builtin.append_ #[t,t'] ty #[v,w]) (gr ++ σ) Q:=by
  intro Q hQ
  have hfirst:∀ {Q:Array Value→Own→Prop} {σ':Own},(∀ cs,Rows ρ cs ys→Q cs.toArray σ')→wpS C.P ρ (Builtin.firstCells (Dat.k α) ys.length w) σ' Q:=fun hq=>Uw hw hq
  rw [hw1] at hfirst ⊢
  rw [hvs]
  unfold Builtin.append_
  show wpS C.P ρ ((underlying t).bind _) _ _
  rw [Ad]
  refine Az hT ?_
  show wpS C.P ρ ((sizeOf el).bind _) _ _
  rw [Ad]
  refine Dx ⟨ti,hi,hik⟩ ?_
  show wpS C.P ρ ((underlying t').bind _) _ _
  rw [Ad]
  refine Az hT' ?_
  rw [← hw2] at hfirst ⊢
  have hold:∀ {Q:Array Value→Own→Prop},(∀ cs,Rows ρ cs xs→Q cs.toArray (gr ++ σ))→wpS C.P ρ (Builtin.firstCells (Dat.k α) xs.length (.slice va xs.length vc)) (gr ++ σ) Q:=fun {Q} hq=>by
   rcases hv.2.2 with ⟨h1,h2⟩ | ⟨r,cap,cs,rs,gb,h1,h2,h3,h4,h5⟩
   ·subst h2
    rw [hvs] at h1
    simp only [List.length_nil,Value.slice.injEq] at h1
    obtain ⟨rfl,-,rfl⟩:=h1
    exact hq [] rfl
   ·rw [hvs] at h1; cases h1
    show wpS C.P ρ (loadCells ⟨r,0,none⟩ (xs.length * Dat.k α)) _ _
    rw [← h3.len]
    refine Ff (a:=⟨r,0,none⟩) (o:=.cells (cs ++ rs).toArray el (0,0)) rfl (.inr (by rw [h2]; simp)) cs 0 #[] (fun j u hj=>?_) ?_
    ·simp only [Gy,Nat.zero_add,List.getElem?_toArray]
     rw [List.getElem?_append_left (List.getElem?_eq_some_iff.1 hj).1]; exact hj
    ·have e1:(#[]:Array Value) ++ cs.toArray = cs.toArray:=by simp
     rw [e1]; exact hq cs h3
  by_cases hn:xs.length + ys.length ≤ vc
  ·show wpS C.P ρ (if xs.length + ys.length ≤ vc then (Builtin.firstCells (Dat.k α) ys.length (.slice ya ys.length yc)).bind _ else _) _ _
   rw [if_pos hn,Ad]
   refine hfirst fun cs' hcs'=>?_
   rcases hv.2.2 with ⟨h1,h2⟩ | ⟨r,cap,cs,rs,gb,h1,h2,h3,h4,h5⟩
   ·subst h2
    rw [hvs] at h1
    simp only [List.length_nil,Value.slice.injEq] at h1
    obtain ⟨rfl,-,rfl⟩:=h1
    have hy0:ys = []:=List.eq_nil_of_length_eq_zero (by simpa using hn)
    subst hy0
    exact hQ _ gr ⟨hv.1,by simp,.inl ⟨rfl,rfl⟩⟩
   ·rw [hvs] at h1; cases h1
    show wpS C.P ρ ((storeCells ((⟨r,0,none⟩:Addr).add (xs.length * Dat.k α)) cs'.toArray.toList).bind _) _ _
    rw [Ad,Ld,List.toList_toArray,Nat.zero_add]
    have hl:xs.length * Dat.k α + cs'.length ≤ (cs ++ rs).length:=by
     rw [h4,hcs'.len,← Nat.add_mul]; exact Nat.mul_le_mul_right _ hn
    refine Ns (r:=r) (i:=0) cs' ⟨r,xs.length * Dat.k α,none⟩ 0 (cs ++ rs) (gr ++ σ) rfl rfl hcs'.sgl (by rw [h2]; rfl) (by simpa using hl) ?_
    have e2:over (cs ++ rs) (xs.length * Dat.k α + 0) cs' = (cs ++ cs') ++ (cs ++ rs).drop (xs.length * Dat.k α + cs'.length):=by
     rw [Nat.add_zero,Qe _ _ _ hl,← h3.len,List.take_left,List.append_assoc]
    have e3:(gr ++ σ).set 0 (r,Res.obj (.cells (over (cs ++ rs) (xs.length * Dat.k α + 0) cs').toArray el (0,0))) = ((r,Res.obj (.cells ((cs ++ cs') ++ (cs ++ rs).drop (xs.length * Dat.k α + cs'.length)).toArray el (0,0))) :: gb) ++ σ:=by
     rw [h2,e2]; rfl
    simp only []
    rw [e3]
    refine hQ _ _ ⟨fun p hp=>?_,by rw [List.length_append]; omega,.inr ⟨r,vc,cs ++ cs',_,gb,by rw [List.length_append],rfl,h3.append hcs',?_,by rw [List.length_append]; exact hn⟩⟩
    ·rcases List.mem_cons.1 hp with rfl | hp
     ·exact ⟨_,rfl⟩
     ·exact hv.1 p (by rw [h2]; exact List.mem_cons_of_mem _ hp)
    ·rw [List.length_append,List.length_append,List.length_drop,← h4,h3.len]
     omega
  ·show wpS C.P ρ (if xs.length + ys.length ≤ vc then _ else (typeInfo el).bind _) _ _
   rw [if_neg hn,Ad]
   refine Gj hi ?_
   have hb1:¬ (((xs.length + ys.length:Nat):Int) > IntKind.i64.max∧((false = true)∨ti.bytes = 0)):=by
    intro ⟨h1,_⟩
    have:IntKind.i64.max = 9223372036854775807:=by simp [IntKind.max,IntKind.signed,IntKind.bits]
    omega
   show wpS C.P ρ (if ((xs.length + ys.length:Nat):Int) > IntKind.i64.max∧((false = true)∨ti.bytes = 0) then _ else (typeInfo el).bind _) _ _
   rw [if_neg hb1,Ad]
   refine Gj hi ?_
   have hb2:¬ (Builtin.nextslicecap (xs.length + ys.length) vc * ti.bytes > 2 ^ 48):=by
    have h1:=Alk (need:=xs.length + ys.length) (cap:=vc) (by omega)
    have h2:Builtin.nextslicecap (xs.length + ys.length) vc * ti.bytes ≤ (2 * (xs.length + ys.length) + 1000) * 1000:=Nat.mul_le_mul h1 hib
    omega
   show wpS C.P ρ (if Builtin.nextslicecap (xs.length + ys.length) vc * ti.bytes > 2 ^ 48 then _ else (choose (.appendCap (xs.length + ys.length) vc el)).bind _) _ _
   rw [if_neg hb2,Ad]
   show (if (Question.appendCap (xs.length + ys.length) vc el).forced then _ else ∀ tt,_)
   rw [if_neg (by simp [Question.forced])]
   intro tt
   have hcap:xs.length + ys.length ≤ (Question.appendCap (xs.length + ys.length) vc el).cut tt:=by simp [Question.cut]
   generalize (Question.appendCap (xs.length + ys.length) vc el).cut tt = nc at hcap
   show wpS C.P ρ ((typeInfo el).bind _) _ _
   rw [Ad]
   refine Gj hi ?_
   show wpS C.P ρ ((askRoom (nc * ti.bytes)).bind _) _ _
   rw [Ad]
   have hroom:∀ {Q:Unit→Own→Prop} {σ':Own},Q () σ'→wpS C.P ρ (askRoom (nc * ti.bytes)) σ' Q:=fun hq=>by
    unfold askRoom
    split
    ·exact ⟨rfl,hq⟩
    ·exact hq
   refine hroom ?_
   show wpS C.P ρ ((Builtin.firstCells (Dat.k α) xs.length (.slice va xs.length vc)).bind _) _ _
   rw [Ad]
   refine hold fun cs hcs=>?_
   show wpS C.P ρ ((Builtin.firstCells (Dat.k α) ys.length (.slice ya ys.length yc)).bind _) _ _
   rw [Ad]
   refine hfirst fun cs' hcs'=>?_
   show wpS C.P ρ ((zeroValue el).bind _) _ _
   rw [Ad]
   refine Jz ⟨ti,hi,hz⟩ ?_
   show wpS C.P ρ ((newRow el (cs.toArray ++ cs'.toArray ++ Builtin.zeroCells z.cells (nc - (xs.length + ys.length)))).bind _) _ _
   rw [Ad]
   refine Ik fun r=>?_
   have e4:(cs.toArray ++ cs'.toArray ++ Builtin.zeroCells z.cells (nc - (xs.length + ys.length))) = ((cs ++ cs') ++ (Builtin.zeroCells z.cells (nc - (xs.length + ys.length))).toList).toArray:=by
    apply Array.ext'; simp
   rw [e4]
   refine hQ _ ((r,Res.obj (.cells ((cs ++ cs') ++ (Builtin.zeroCells z.cells (nc - (xs.length + ys.length))).toList).toArray el (0,0))) :: gr) ⟨fun p hp=>?_,by rw [List.length_append]; omega,.inr ⟨r,nc,cs ++ cs',_,gr,by rw [List.length_append],rfl,hcs.append hcs',?_,by rw [List.length_append]; exact hcap⟩⟩
   ·rcases List.mem_cons.1 hp with rfl | hp
    ·exact ⟨_,rfl⟩
    ·exact hv.1 p hp
   ·have e5:(Builtin.zeroCells z.cells (nc - (xs.length + ys.length))).toList.length = (nc - (xs.length + ys.length)) * Dat.k α:=by
     simp [Builtin.zeroCells,hzk]
    rw [List.length_append,List.length_append,hcs.len,hcs'.len,e5,← Nat.add_mul,← Nat.add_mul]
    congr 1; omega
 exact hGo _ h
/-- What has grown is only read from here on. -/
theorem Grow.val {α:Type} [Dat α] {ρ':Ro} {el:TypeId} {v:Value} {xs:List α} {r cap:Nat} {cs rs:List Value} (hl:xs.length < 2 ^ 60) (h1:v = .slice (some ⟨r,0,none⟩) xs.length cap) (h3:Rows ρ' cs xs) (h5:xs.length ≤ cap) (hr:ρ' r = some (.cells (cs ++ rs).toArray el (0,0))):Val ρ' v xs:=by
 rw [h1]; exact Zv hr h3 hl h5
theorem Vn {gb σ:Own} (h:∀ p ∈ gb,∃ o,p.2 = Res.obj o):Ghost ρ (gb ++ σ) ρ σ:=by
 induction gb with
 | nil=>exact .refl
 | cons p gb ih =>
  obtain ⟨o,ho⟩:=h p (List.mem_cons_self ..)
  obtain ⟨r,x⟩:=p
  simp only at ho; subst ho
  exact Ghost.drop.trans (ih fun q hq=>h q (List.mem_cons_of_mem _ hq))
theorem Hc {α:Type} [Dat α] {bb:FB} {nn:Nat} {Q':Hu} {el:TypeId} {xs:List α} {gr:Own} {c:Code} (hg:Grow ρ el v xs gr) (h:∀ ρ',Ro.le ρ ρ'→Val ρ' v xs→WpC C bb nn c Q' e ds ρ' σ):WpC C bb nn c Q' e ds ρ (gr ++ σ):=by
 rcases hg.2.2 with ⟨h1,h2⟩ | ⟨r,cap,cs,rs,gb,h1,h2,h3,h4,h5⟩
 ·refine Aj (Vn hg.1) (h ρ .refl ?_)
  rw [h1,h2]; exact Gx
 ·subst h2
  show WpC C bb nn c Q' e ds ρ ((r,_) :: (gb ++ σ))
  refine Wo fun ρ' hle hr=>Aj (Vn fun p hp=>hg.1 p (List.mem_cons_of_mem _ hp)) (h ρ' hle (Grow.val hg.2.1 h1 (h3.mono hle) h5 hr))
theorem Ca {α:Type} [Dat α] {Q:Env→List Deferred→Ro→Own→Prop} {bb:FB} {nn:Nat} {el:TypeId} {xs:List α} {gr:Own} (hg:Grow ρ el v xs gr) (h:∀ ρ',Ro.le ρ ρ'→Val ρ' v xs→Ey C bb nn l₀ rest Q e ds ρ' σ):Ey C bb nn l₀ rest Q e ds ρ (gr ++ σ):=by
 rcases hg.2.2 with ⟨h1,h2⟩ | ⟨r,cap,cs,rs,gb,h1,h2,h3,h4,h5⟩
 ·refine Bj (Vn hg.1) (h ρ .refl ?_)
  rw [h1,h2]; exact Gx
 ·subst h2
  show Ey C bb nn l₀ rest Q e ds ρ ((r,_) :: (gb ++ σ))
  refine Tu fun ρ' hle hr=>Bj (Vn fun p hp=>hg.1 p (List.mem_cons_of_mem _ hp)) (h ρ' hle (Grow.val hg.2.1 h1 (h3.mono hle) h5 hr))
theorem Lr {α:Type} [Dat α] {Q:Env→List Deferred→Ro→Own→Prop} {bb:FB} {pz:List Nat} {ρ₀:Ro} {fuel:Nat} {li:List Bool} {el:TypeId} {xs:List α} {gr:Own} (hg:Grow ρ el v xs gr)
  (h:∀ ρ',Ro.le ρ ρ'→Val ρ' v xs→El C bb l₀.toArray Q pz (leS ρ₀) (fuel + 1) li.toArray e ds ρ' σ):El C bb l₀.toArray Q pz (leS ρ₀) (fuel + 1) li.toArray e ds ρ (gr ++ σ):=by
 rcases hg.2.2 with ⟨h1,h2⟩ | ⟨r,cap,cs,rs,gb,h1,h2,h3,h4,h5⟩
 ·refine Ej (Vn hg.1) id (h ρ .refl ?_)
  rw [h1,h2]; exact Gx
 ·subst h2
  show El C bb l₀.toArray Q pz (leS ρ₀) (fuel + 1) li.toArray e ds ρ ((r,_) :: (gb ++ σ))
  refine Agi fun ρ' hle hr=>Ej (Vn fun p hp=>hg.1 p (List.mem_cons_of_mem _ hp)) id (h ρ' hle (Grow.val hg.2.1 h1 (h3.mono hle) h5 hr))
theorem Bs {α:Type} [Dat α] {xs:List α} {r len:Nat} {cs:List Value} {el:TypeId} (h:Rows ρ cs xs) (hl:xs.length = len) (hs:len < 2 ^ 60):Grow ρ el (.slice (some ⟨r,0,none⟩) len len) xs [(r,.obj (.cells cs.toArray el (0,0)))] :=
 ⟨fun p hp=>by rw [List.mem_singleton] at hp; exact ⟨_,by rw [hp]⟩,by omega,.inr ⟨r,len,cs,[],[],by rw [hl],by simp,h,by rw [List.append_nil,h.len,hl],by omega⟩⟩
/-- The parts of a literal,one by one. -/
theorem Adk {e:Env}:∀ {os:List Operand} {vs:List Value} (k:Nat),EvL e os vs→((os.zipIdx k).map fun p=>(p.2,p.1)).map (fun p=>(p.1,Af e p.2)) = ((vs.zipIdx k).map fun p=>(p.2,p.1))
 | [],[],_,_=>rfl
 | o :: os,v :: vs,k,⟨h1,h2⟩=>by
  have:=Adk (k + 1) h2
  simp only [List.zipIdx_cons,List.map_cons,List.map_map] at this ⊢
  rw [h1,this]
 | [],_ :: _,_,h=>h.elim
 | _ :: _,[],_,h=>h.elim
theorem Dk {e:Env} {os:List Operand} {vs:List Value} (h:EvL e os vs):((os.zipIdx).map fun p=>(p.2,p.1)).map (fun p=>(p.1,Af e p.2)) = (vs.zipIdx.map fun p=>(p.2,p.1)):=Adk 0 h
theorem Fy {α:Type} [Dat α] {xs ys:List α} {el:TypeId} {gr:Own} (h:xs = ys) (hg:Grow ρ el v xs gr):Grow ρ el v ys gr:=h ▸ hg
theorem Val.cast {α:Type} [Dat α] {a a':α} (h:a = a') (hv:Val ρ v a):Val ρ v a':=h ▸ hv
theorem Abz {α:Type} [Dat α] {a:α} {w:Value} (h:w = v) (hv:Val ρ v a):Val ρ w a:=h ▸ hv
theorem Ajw {α:Type} [Dat α] {xs:List α} {el el':TypeId} {gr:Own} (hT:P.underlying t = some (.slice el')) (hx:Af e x = v) (hv:Grow ρ el v xs gr):Yld P ρ e (.call ⟨.builtin .len,#[x],#[t]⟩) ty (.int .i64 (xs.length:Int)):=by
 obtain ⟨a,cap,h1⟩:∃ a cap,v = .slice a xs.length cap:=by
  rcases hv.2.2 with ⟨h1,h2⟩ | ⟨r,cap,cs,rs,gb,h1,_⟩
  ·exact ⟨none,0,by rw [h1,h2]; rfl⟩
  ·exact ⟨_,_,h1⟩
 refine Mc (args:=[x]) (vs:=[v]) (s:=fun _=>Builtin.len_ #[t] ty #[v]) (by simp [hx]) (fun _=>rfl) fun ρ' σ cs _=>?_
 show wpS P ρ' ((underlying t).bind _) σ _
 rw [Ad]
 refine Az hT ?_
 rw [h1]
 exact ⟨rfl,rfl⟩
end
abbrev Brl:=@Grow.mono
end
section
open Go
theorem Aec (a b:ByteArray):(a == b) = (a.toList == b.toList):=by
 rw [ByteArray.toList_eq,ByteArray.toList_eq]
 cases h:(a == b) with
 | true =>
  have:a.data == b.data:=h
  rw [eq_of_beq this]; simp
 | false =>
  have:(a.data == b.data) = false:=h
  symm
  rw [Bool.eq_false_iff]
  intro h2
  rw [Bool.eq_false_iff] at this
  exact this (by rw [Array.toList_inj.1 (eq_of_beq h2)]; simp)
/-- Such entries: a set of strings. -/
def Mu (es:Array MapEntry) (p:ByteArray→Bool):Prop :=
 (∀ en ∈ es.toList,∃ k,en.key = .string k∧en.val = .bool true)∧∀ k,p k = es.toList.any fun en=>match en.key with | .string k'=>k.toList == k'.toList | _=>false
theorem Rl {es:Array MapEntry} {p q:ByteArray→Bool} (h:∀ k,p k = q k) (hs:Mu es p):Mu es q:=⟨hs.1,fun k=>by rw [← h k]; exact hs.2 k⟩
theorem Uh:Mu #[] (fun _=>false):=⟨fun en h=>(by cases h),fun k=>rfl⟩
section
variable {C:Ctx} {b:FB} {n:Nat} {l₀ rest:List Oper} {e:Env} {ds:List Deferred} {ρ:Ro} {σ:Own} {K:Value→List Deferred→Ro→Own→Prop} {rd:Option Nat} {dd:Option Tmp}
variable {ty:TypeId} {pos:String} {af:Array Edge} {g:Option (Nat × Bool)} {x y u:Operand} {v p:Value} {t t':TypeId} {P:Program}
theorem Oh (h:∀ r,K (.map (some r)) ds ρ ((r,.obj (.map #[] 0)) :: σ)):wpS C.P ρ (execOp (Af e) ⟨dd,.makeMap t none,ty,pos,af,g⟩) σ (NextH C K rd ds ρ):=by
 show wpS C.P ρ ((Instr.makeMap t none).bind _) σ _
 refine Gd ?_
 show wpS C.P ρ ((newObj (.map #[] 0)).bind _) σ _
 rw [Ad]
 exact .inl ⟨rfl,fun r=>h r⟩
theorem Pu {k:ByteArray}:∀ (es:List MapEntry) (i:Nat),(∀ en ∈ es,∃ k,en.key = .string k∧en.val = .bool true) →
  (Instr.findNow .string (.string k) es i = some none∧(es.any fun en=>match en.key with | .string k'=>k.toList == k'.toList | _=>false) = false) ∨
  (∃ j en,Instr.findNow .string (.string k) es i = some (some (i + j,.bool true))∧es[j]? = some en∧(∃ k',en.key = .string k'∧k.toList = k'.toList)∧(es.any fun en=>match en.key with | .string k'=>k.toList == k'.toList | _=>false) = true)
 | [],i,_=>.inl ⟨rfl,rfl⟩
 | en :: es,i,h=>by
  obtain ⟨k',h1,h2⟩:=h en (List.mem_cons_self ..)
  have ih:=Pu (k:=k) es (i + 1) fun x hx=>h x (List.mem_cons_of_mem _ hx)
  simp only [Instr.findNow,h1,Instr.sameNow,List.any_cons]
  rw [Aec]
  cases hk:(k.toList == k'.toList) with
  | true =>
   refine .inr ⟨0,en,?_,rfl,⟨k',h1,eq_of_beq hk⟩,?_⟩
   ·simp [h2]
   ·simp [hk]
  | false =>
   rcases ih with ⟨h3,h4⟩ | ⟨j,en',h3,h4,h5,h6⟩
   ·exact .inl ⟨by simp [h3],by simp [hk,h4]⟩
   ·exact .inr ⟨j + 1,en',by simp only [h3]; congr 3; omega,by simpa using h4,h5,by simp [h6]⟩
theorem Qq {P:Program} {kt:TypeId} {k:ByteArray} {es:Array MapEntry} {pr:ByteArray→Bool} (hk:P.underlying kt = some .string) (hs:Mu es pr) {Q:Option (Nat × Value)→Own→Prop}
  (h0:pr k = false→Q none σ) (h1:pr k = true→∀ j en k',es[j]? = some en→en.key = .string k'→k.toList = k'.toList→Q (some (j,.bool true)) σ):wpS P ρ (Instr.findKey kt (.string k) es.toList) σ Q:=by
 show wpS P ρ ((underlying kt).bind _) σ Q
 rw [Ad]
 refine Az hk ?_
 rcases Pu (k:=k) es.toList 0 hs.1 with ⟨h2,h3⟩ | ⟨j,en,h2,h3,⟨k',h4,h5⟩,h6⟩
 ·simp only [h2]
  exact h0 (by rw [hs.2 k]; exact h3)
 ·simp only [h2,Nat.zero_add]
  exact h1 (by rw [hs.2 k]; exact h6) j en k' (by simpa using h3) h4 h5
theorem Qo {P:Program} {kt:TypeId} {k:ByteArray} {em:Bool} {m:Nat} (hk:P.underlying kt = some .string) {Q:Unit→Own→Prop} (h:Q () σ):wpS P ρ (Instr.checkKey em (m + 1) kt (.string k)) σ Q:=by
 show wpS P ρ ((underlying kt).bind _) σ Q
 rw [Ad]
 exact Az hk h
/-- Is it in the set? -/
theorem Xq {i r clock:Nat} {kt et:TypeId} {k:ByteArray} {es:Array MapEntry} {pr:ByteArray→Bool} (hT:C.P.underlying t = some (.map kt et)) (hk:C.P.underlying kt = some .string) (hz:Fw C.P et (.bool false)) (hs:Mu es pr)
  (hx:Af e x = .map (some r)) (hy:Af e y = .string k) (hi:σ[i]? = some (r,.obj (.map es clock))) (h:K (.bool (pr k)) ds ρ σ):wpS C.P ρ (execOp (Af e) ⟨dd,.lookup t x y false,ty,pos,af,g⟩) σ (NextH C K rd ds ρ):=by
 show wpS C.P ρ ((Instr.lookup t (Af e x) (Af e y) false).bind _) σ _
 refine Gd ?_
 rw [hx,hy]
 show wpS C.P ρ ((underlying t).bind _) σ _
 rw [Ad]
 refine Az hT ?_
 show wpS C.P ρ ((getObj r).bind _) σ _
 rw [Ad]
 refine ⟨_,.inr (List.mem_of_getElem? hi),rfl,?_⟩
 show wpS C.P ρ ((Instr.checkKey es.isEmpty 10000 kt (.string k)).bind _) σ _
 rw [Ad]
 refine Qo (m:=9999) hk ?_
 show wpS C.P ρ ((Instr.findKey kt (.string k) es.toList).bind _) σ _
 rw [Ad]
 refine Qq hk hs (fun h0=>?_) (fun h1 j en k' _ _ _=>?_)
 ·show wpS C.P ρ ((zeroValue et).bind _) σ _
  rw [Ad]
  refine Jz hz ?_
  rw [h0] at h; exact h
 ·rw [h1] at h; exact h
/-- Into the set. -/
theorem Afq {i r clock:Nat} {kt et:TypeId} {k:ByteArray} {es:Array MapEntry} {pr:ByteArray→Bool} (hT:C.P.underlying t = some (.map kt et)) (hk:C.P.underlying kt = some .string) (hs:Mu es pr) (hn:pr k = false)
  (hx:Af e x = .map (some r)) (hy:Af e y = .string k) (hu:Af e u = .bool true) (hi:σ[i]? = some (r,.obj (.map es clock)))
  (h:∀ es' clock',Mu es' (fun k'=>k'.toList == k.toList || pr k')→K undef ds ρ (σ.set i (r,.obj (.map es' clock')))):wpS C.P ρ (execOp (Af e) ⟨dd,.mapUpdate t x y u,ty,pos,af,g⟩) σ (NextH C K rd ds ρ):=by
 show wpS C.P ρ ((Instr.mapUpdate t (Af e x) (Af e y) (Af e u)).bind _) σ _
 refine Rs ?_
 rw [hx,hy,hu]
 show wpS C.P ρ ((underlying t).bind _) σ _
 rw [Ad]
 refine Az hT ?_
 show wpS C.P ρ ((getObj r).bind _) σ _
 rw [Ad]
 refine ⟨_,.inr (List.mem_of_getElem? hi),rfl,?_⟩
 show wpS C.P ρ ((Instr.checkKey false 10000 kt (.string k)).bind _) σ _
 rw [Ad]
 refine Qo (m:=9999) hk ?_
 show wpS C.P ρ ((Instr.findKey kt (.string k) es.toList).bind _) σ _
 rw [Ad]
 refine Qq hk hs (fun h0=>?_) (fun h1=>by rw [hn] at h1; cases h1)
 refine ⟨rfl,i,_,hi,rfl,h _ _ ⟨fun en hen=>?_,fun k'=>?_⟩⟩
 ·rw [Array.toList_push,List.mem_append,List.mem_singleton] at hen
  rcases hen with hen | rfl
  ·exact hs.1 en hen
  ·exact ⟨k,rfl,rfl⟩
 ·rw [Array.toList_push,List.any_append,← hs.2 k']
  simp [Bool.or_comm]
/-- Called with such data,the function yields p of it and leaves everything as it was. -/
def Su {α:Type} [Dat α] (f:Value) (p:α→Bool):Prop :=
 ∃ (k:FuncId) (fn:Func) (caps:List Value),f = .func (.func k) #[] caps.toArray∧Tryz.prog.funcs[k]? = some fn∧(fn.name == "runtime.NumGoroutine") = false∧fn.body.isNone = false ∧
  ∀ (mn:Bool) (X:Frame→List Frame→Ro→Own→Cy→Prop) (ρ:Ro) (σ:Own) (v:Value) (x:α),Val ρ v x→CallsH (CX mn X) k (v :: caps).toArray ρ σ (fun w ρ' σ'=>ρ' = ρ∧σ' = σ∧w = .bool (p x))
theorem Ajp {α:Type} [Dat α] {mn:Bool} {X:Frame→List Frame→Ro→Own→Cy→Prop} {f:Value} {pr:α→Bool} {a:α} {tys:Array TypeId} (hf:Su f pr) (hx:Af e x = f) (hy:Af e y = v) (hv:Val ρ v a) (h:K (.bool (pr a)) ds ρ σ) :
  wpS (CX mn X).P ρ (execOp (Af e) ⟨dd,.call ⟨.value x,#[y],tys⟩,ty,pos,af,g⟩) σ (NextH (CX mn X) K rd ds ρ):=by
 obtain ⟨k,fn,caps,rfl,h1,h2,h3,h4⟩:=hf
 have hargs:(#[y]:Array Operand).map (Af e) = #[v]:=by simp [hy]
 show wpS Tryz.prog ρ ((Deferred.ofValue (Af e x) ((#[y]:Array Operand).map (Af e))).bind _) σ _
 rw [hx,hargs]
 show wpS Tryz.prog ρ (callFunc k ((#[] ++ #[v]) ++ caps.toArray)) σ _
 have e1:((#[] ++ #[v]) ++ caps.toArray:Array Value) = (v :: caps).toArray:=by simp
 rw [e1]
 have h5:=(h4 mn X ρ σ v a hv).mono (R':=fun w ρ' σ'=>K w ds ρ' σ') (by rintro w ρ' σ' ⟨rfl,rfl,rfl⟩; exact h)
 exact Mr (P:=Tryz.prog) h1 h2 h3 h5
instance:Dat UInt8 where
 k:=1
 agg:=false
 rep _ cs x:=cs = [.int .u8 (x.toNat:Int)]
 mono _ h:=h
 len h:=by rw [h]; rfl
 sgl h:=by rw [h]; simp [single]
 one _:=rfl
theorem Uq {ρ:Ro} {v:Value} {x:UInt8}:Val ρ v x↔v = .int .u8 (x.toNat:Int) :=
 ⟨fun ⟨cs,h1,h2⟩=>by rw [h2,show cs = [.int .u8 (x.toNat:Int)] from h1]; rfl,fun h=>⟨[v],by rw [h]; rfl,rfl⟩⟩
theorem ty5:GoTy Tryz.prog 5 UInt8:=⟨⟨_,Bpv,rfl⟩,⟨_,Ab Tryz.typeInfo5,rfl⟩⟩
theorem Aaf {P:Program} {a:UInt8} (hT:GoTy P t UInt8) (hx:Af e x = p) (hp:At ρ p a):Yld P ρ e (.load t x) ty (.int .u8 (a.toNat:Int)):=by
 obtain ⟨v,h1,h2⟩:=Ax (ty:=ty) hT hx hp
 rw [Uq.1 h1] at h2; exact h2
theorem Ug {ρ:Ro}:∀ (l:List UInt8),Rows ρ (l.map fun c=>Value.int .u8 (c.toNat:Int)) l
 | []=>rfl
 | c :: l=>⟨[_],_,rfl,rfl,Ug l⟩
theorem Alh {Q:Env→List Deferred→Ro→Own→Prop} {bb:FB} {nn r cap:Nat} {cs rs:List Value} {fz:Nat × Nat} {s:ByteArray} (hr:Rows ρ cs s.data.toList) (hc:s.size ≤ cap) (hs:s.size < 2 ^ 60) (h:∀ ρ',Ro.le ρ ρ'→Val ρ' (.slice (some ⟨r,0,none⟩) s.size cap) s.data.toList→Ey C bb nn l₀ rest Q e ds ρ' σ) :
  Ey C bb nn l₀ rest Q e ds ρ ((r,.obj (.cells (cs ++ rs).toArray 5 fz)) :: σ) :=
 Tu fun ρ' hle hh=>h ρ' hle (by
  have e1:s.size = s.data.toList.length:=by rw [Array.length_toList]; rfl
  rw [e1]
  exact Zv hh (hr.mono hle) (by rw [← e1]; exact hs) (by rw [← e1]; exact hc))
/-- A string's bytes,as a new slice that is only read. -/
theorem Amd {s:ByteArray} (hT:C.P.underlying t = some .string) (hT':C.P.underlying t' = some (.slice 5)) (h5:C.P.underlying 5 = some (.int .u8)) (hx:Af e x = .string s) (hs:s.size < 2 ^ 60)
  (h:∀ r cap cs rs fz,Rows ρ cs s.data.toList→s.size ≤ cap→K (.slice (some ⟨r,0,none⟩) s.size cap) ds ρ ((r,.obj (.cells (cs ++ rs).toArray 5 fz)) :: σ)) :
  wpS C.P ρ (execOp (Af e) ⟨dd,.convert t t' x,ty,pos,af,g⟩) σ (NextH C K rd ds ρ):=by
 show wpS C.P ρ ((convert t t' (Af e x)).bind _) σ _
 refine Gd ?_
 rw [hx]
 show wpS C.P ρ ((underlying t).bind _) σ _
 rw [Ad]
 refine Az hT ?_
 show wpS C.P ρ ((underlying t').bind _) σ _
 rw [Ad]
 refine Az hT' ?_
 show wpS C.P ρ ((underlying 5).bind _) σ _
 rw [Ad]
 refine Az h5 ?_
 show wpS C.P ρ ((choose (.appendCap s.size 0 5)).bind _) σ _
 rw [Ad]
 show (if (Question.appendCap s.size 0 5).forced then _ else ∀ tt,_)
 rw [if_neg (by simp [Question.forced])]
 intro tt
 have hcap:s.size ≤ (Question.appendCap s.size 0 5).cut tt:=by simp [Question.cut]
 generalize (Question.appendCap s.size 0 5).cut tt = nc at hcap
 show wpS C.P ρ ((newRow 5 ((s.data.map fun b=>Value.int .u8 b.toNat) ++ Array.replicate (nc - s.size) (.int .u8 0))).bind _) σ _
 rw [Ad]
 refine Ik fun r=>?_
 have e1:((s.data.map fun (b:UInt8)=>Value.int .u8 (b.toNat:Int)) ++ Array.replicate (nc - s.size) (Value.int .u8 0)) = ((s.data.toList.map fun (c:UInt8)=>Value.int .u8 (c.toNat:Int)) ++ List.replicate (nc - s.size) (Value.int .u8 0)).toArray:=by
  apply Array.ext'; simp
 rw [e1]
 show wpS C.P ρ ((markStringish ⟨r,0,none⟩).bind _) _ _
 rw [Ad]
 show wpS C.P ρ ((shape r).bind _) _ _
 rw [Ad]
 refine ⟨_,.inr (List.mem_cons_self ..),?_⟩
 refine .inr ⟨by simp,0,_,_,0,0,rfl,?_⟩
 exact h r nc _ _ _ (Ug _) hcap
end
end
section
open Go
/-- The loop's own function,called with x. -/
def Acp (C:Ctx) (l:Nat) (x:Value) (ρ:Ro) (σ:Own) (R:Value→Ro→Own→Prop):Prop :=
 ∀ rd ds,wpS C.P ρ (Instr.yield l #[x]) σ (NextH C (fun v ds' ρ' σ'=>ds' = ds∧R v ρ' σ') rd ds ρ)
/-- A function value that hands these values,one after the other,to the function that it gets,as long as that yields true. -/
def IterF (f:Value) (ρ₀:Ro) (ys:List Value):Prop :=
 ∃ (k:FuncId) (fn:Func) (caps:List Value),f = .func (.func k) #[] caps.toArray∧Tryz.prog.funcs[k]? = some fn∧(fn.name == "runtime.NumGoroutine") = false∧fn.body.isNone = false ∧
  ∀ (mn:Bool) (X:Frame→List Frame→Ro→Own→Cy→Prop) (l:Nat) (I:List Value→Ro→Own→Prop) (ρ:Ro) (σ:Own),Ro.le ρ₀ ρ→(∀ pre ρ ρ' σ,Ro.le ρ ρ'→I pre ρ σ→I pre ρ' σ)→I [] ρ σ →
   (∀ pre x post ρ' σ',ys = pre ++ x :: post→Ro.le ρ ρ'→I pre ρ' σ'→Acp (CX mn X) l x ρ' σ' (fun v ρ'' σ''=>v = .bool true∧Ro.le ρ' ρ''∧I (pre ++ [x]) ρ'' σ'')) →
   CallsH (CX mn X) k (.func (.yield l) #[] #[] :: caps).toArray ρ σ (fun _ ρ' σ'=>Ro.le ρ ρ'∧I ys ρ' σ')
theorem Bch {P:Program} {ρ:Ro} {σ:Own} {t:TypeId} {p q:Bool} (hT:P.underlying t = some .bool) {Q:Bool→Own→Prop} (h:Q (p == q) σ):wpS P ρ (Op.equal t (.bool p) (.bool q)) σ Q:=by
 show wpS P ρ ((underlying t).bind _) σ Q
 rw [Ad]
 exact Az hT h
theorem Bkn {P:Program} {ρ:Ro} {e:Env} {ty t t':TypeId} {x y:Operand} {p q:Bool} (hT:P.underlying t = some .bool) (hx:Af e x = .bool p) (hy:Af e y = .bool q):Yld P ρ e (.binOp .eql t x y t') ty (.bool (p == q)) :=
 Mt (s:=(do eqGuard .eql t x y (Af e x) (Af e y); binOp .eql t (Af e x) (Af e y))) (fun _ _ _ _=>rfl) fun ρ' σ _=>by
  rw [hx,hy,Azq]
  show wpS P ρ' ((Op.equal t (.bool p) (.bool q)).bind _) σ _
  rw [Ad]
  exact Bch hT ⟨rfl,rfl⟩
section
variable {mn:Bool} {X:Frame→List Frame→Ro→Own→Cy→Prop} {b:FB} {n:Nat} {e:Env} {ds:List Deferred} {ρ:Ro} {σ:Own} {K:Value→List Deferred→Ro→Own→Prop} {rd:Option Nat} {dd:Option Tmp}
variable {ty:TypeId} {pos:String} {af:Array Edge} {g:Option (Nat × Bool)} {x y:Operand} {v p:Value} {t t':TypeId}
/-- A call of the loop's function,in an iterator. -/
theorem Xr {l:Nat} {tys:Array TypeId} {R:Value→Ro→Own→Prop} (hx:Af e x = .func (.yield l) #[] #[]) (hy:Af e y = v) (hY:Acp (CX mn X) l v ρ σ R) (h:∀ w ρ' σ',R w ρ' σ'→K w ds ρ' σ') :
  wpS (CX mn X).P ρ (execOp (Af e) ⟨dd,.call ⟨.value x,#[y],tys⟩,ty,pos,af,g⟩) σ (NextH (CX mn X) K rd ds ρ):=by
 have hargs:(#[y]:Array Operand).map (Af e) = #[v]:=by simp [hy]
 show wpS Tryz.prog ρ ((Deferred.ofValue (Af e x) ((#[y]:Array Operand).map (Af e))).bind _) σ _
 rw [hx,hargs]
 show wpS Tryz.prog ρ (Instr.yield l (#[] ++ #[v])) σ _
 have e1:(#[] ++ #[v]:Array Value) = #[v]:=by simp
 rw [e1]
 exact Eu (fun nx σ' hn=>hn.mono (by rintro w ds' ρ' σ' ⟨rfl,hR⟩; exact h w ρ' σ' hR)) _ _ (hY rd ds)
theorem Afw {P:Program} {l i:Nat} {L:Loop} {Q:Next→Own→Prop} (hi:σ[i]? = some (l,.obj (.loop L))) {args:Array Value} (hs:args.size = L.params.size)
  (h:Q (.round l L.fn ((L.params.zip args).foldl (fun tmps (t,a)=>tmps.setIfInBounds t a) L.tmps) L.assign L.body) σ):wpS P ρ (Instr.yield l args) σ Q:=by
 show wpS P ρ ((Instr.getLoop l).bind _) σ Q
 rw [Ad]
 show wpS P ρ ((getObj l).bind _) σ _
 rw [Ad]
 refine ⟨_,.inr (List.mem_of_getElem? hi),rfl,?_⟩
 show wpS P ρ (if args.size ≠ L.params.size then _ else _) σ Q
 rw [if_neg (by simpa using hs)]
 exact h
theorem Vd {P:Program} {k:FuncId} {fn:Func} {args:Array Value} (h1:P.funcs[k]? = some fn) (h2:(fn.name == "runtime.NumGoroutine") = false) (h3:fn.body.isNone = false) (W:World) (es:Array Event):(callFunc k args).runT P W es = (.ok (.enter k args) W,es):=by
 show (program.bind _:Sem Next).runT P W es = _
 rw [Sem.runT_bind']
 show Sem.runT P (match P.funcs[k]? with | none=>_ | some fn=>_) W es = _
 rw [h1]
 simp only [h2,h3]
 rfl
theorem Abv {P:Program} {main:Bool} {b:FB} {tm:Array Value} {ds:List Deferred} {f:Operand} {ps:Array Tmp} {assign body:Code} {k:List Item} {cs:List Frame} {kk:FuncId} {fn:Func} {caps:List Value} {W W':World} {lm:Nat × List Deferred} {es:Array Event} (hr:b.round = none) (hk:b.kind = .normal)
  (hf:(Fr b tm ds (.code (.rangeFunc f ps assign body) :: k)).eval f = .func (.func kk) #[] caps.toArray) (h1:P.funcs[kk]? = some fn) (h2:(fn.name == "runtime.NumGoroutine") = false) (h3:fn.body.isNone = false)
  (hrun:(Instr.enterLoop b.fn tm ps assign body none).runT P W #[] = (.ok lm W',es)) :
  ∃ es',stepG P main (Conc.G (Fr b tm ds (.code (.rangeFunc f ps assign body) :: k)) cs) W = .go (Conc.G (Frame.enter P kk (Value.func (.yield lm.1) #[] #[] :: caps).toArray .normal) (Fr b tm (lm.2 ++ ds) (.inRangeFunc lm.1 :: k) :: cs)) W' es'∧∀ e ∈ es',e ∈ es:=by
 obtain ⟨l,mark⟩:=lm
 have hkind:(b.kind == CallKind.early) = false:=by rw [hk]; rfl
 have hev2:(Fr b tm (mark ++ ds) (.inRangeFunc l :: k)).eval f = .func (.func kk) #[] caps.toArray:=by
  rw [← hf]; cases f <;> rfl
 have hi:(do let d ← resolve (Fr b tm (mark ++ ds) (.inRangeFunc l :: k)).eval { callee:=.value f,args:=#[.const (.func (.yield l) #[] #[])],argTypes:=#[] } 0; invoke d.target d.args:Sem Next).runT P W' #[] = (.ok (.enter kk (Value.func (.yield l) #[] #[] :: caps).toArray) W',#[]):=by
  generalize hfr:Fr b tm (mark ++ ds) (.inRangeFunc l :: k) = fr at hev2
  have e1:(do let d ← resolve fr.eval { callee:=.value f,args:=#[.const (.func (.yield l) #[] #[])],argTypes:=#[] } 0; invoke d.target d.args:Sem Next) = callFunc kk (Value.func (.yield l) #[] #[] :: caps).toArray:=by
   show ((Deferred.ofValue (fr.eval f) ((#[.const (.func (.yield l) #[] #[])]:Array Operand).map fr.eval)).bind _) = _
   rw [hev2]
   show callFunc kk ((#[] ++ ((#[.const (.func (.yield l) #[] #[])]:Array Operand).map fr.eval)) ++ caps.toArray) = _
   congr 1
   simp [Frame.eval]
  rw [e1]; exact Vd h1 h2 h3 W' #[]
 refine ⟨seen P b.fn es ++ seen P b.fn #[],?_,fun ev he=>?_⟩
 ·simp only [Fr,hr] at hi
  simp only [Conc.G,stepG,stepG.exec,Fr,hr,hrun,stepG.apply,if_true,hi,hkind,GStep.after]
  rfl
 ·rcases Array.mem_append.1 he with h | h
  ·exact Lh h
  ·have:=Lh h; simp at this
theorem Vj {P:Program} {fn:FuncId} {tm:Array Value} {ps:Array Tmp} {assign body:Code} {Q:Nat × List Deferred→Own→Prop}
  (h:∀ r l,Q (l,[{ target:=.collected r,args:=#[] }]) ((l,.obj (.loop { state:=.ready,pending:=none,fn,tmps:=tm,params:=ps,assign,body,defers:=r })) :: (r,.obj (.deferred (some []))) :: σ)) :
  wpS P ρ (Instr.enterLoop fn tm ps assign body none) σ Q:=by
 show wpS P ρ ((newObj (.deferred (some []))).bind _) σ Q
 rw [Ad]
 refine .inl ⟨rfl,fun r=>?_⟩
 show wpS P ρ ((newObj (.loop { state:=.ready,pending:=none,fn,tmps:=tm,params:=ps,assign,body,defers:=r })).bind _) _ Q
 rw [Ad]
 exact .inl ⟨rfl,fun l=>h r l⟩
theorem Zz {P:Program} {l:Nat} {L:Loop} {Q:Option Code→Own→Prop} {σ:Own} (hb:(L.state == .busy) = false) (h:Q L.pending ((l,.obj (.loop { L with state:=.exhausted })) :: σ)):wpS P ρ (Instr.endLoop l) ((l,.obj (.loop L)) :: σ) Q:=by
 show wpS P ρ ((Instr.getLoop l).bind _) _ Q
 rw [Ad]
 show wpS P ρ ((getObj l).bind _) _ _
 rw [Ad]
 refine ⟨_,.inr (List.mem_cons_self ..),rfl,?_⟩
 show wpS P ρ (if L.state == .busy then _ else _) _ Q
 rw [if_neg (by simp [hb])]
 exact ⟨rfl,0,_,rfl,rfl,h⟩
/-- A RANGE OVER A FUNCTION,to the end: J says what is held beside the loop after the first values. -/
theorem Hs {f:Operand} {q:Nat} {assign body:Code} {Q:Hu} {fv:Value} {ys:List Value} (J:List Value→Ro→Own→Prop) (hr:b.round = none) (hk:b.kind = .normal) (hq:q < n) (hf:Af e f = fv) (hF:IterF fv ρ ys)
  (hJm:∀ pre ρ ρ' σ,Ro.le ρ ρ'→J pre ρ σ→J pre ρ' σ) (hJ:J [] ρ σ)
  (hbody:∀ l pre x post ρ' τ,ys = pre ++ x :: post→Ro.le ρ ρ'→J pre ρ' τ→∀ pfx:Own,
   WpC (CX mn X) ⟨b.fn,.normal,some l⟩ n assign (fun ex e1 ds1 ρ1 σ1=>ex = .normal∧ds1 = []∧Ro.le ρ' ρ1∧∃ τ1,σ1 = pfx ++ τ1 ∧
    ∀ pfx2:Own,WpC (CX mn X) ⟨b.fn,.normal,some l⟩ n body (fun ex _ _ ρ2 σ2=>ex = .normal∧Ro.le ρ1 ρ2∧∃ τ2,σ2 = pfx2 ++ τ2∧J (pre ++ [x]) ρ2 τ2) e1 [] ρ1 (pfx2 ++ τ1)) (upd e q x) [] ρ' (pfx ++ τ))
  (hend:∀ r ρ' τ,Ro.le ρ ρ'→J ys ρ' τ→Q .normal e ({ target:=.collected r,args:=#[] } :: ds) ρ' ((r,.obj (.deferred (some []))) :: τ)) :
  WpC (CX mn X) b n (.rangeFunc f #[q] assign body) Q e ds ρ σ:=by
 intro tm k cs ht
 obtain ⟨kk,fn,caps,rfl,h1,h2,h3,h4⟩:=hF
 have hkind:(b.kind == CallKind.early) = false:=by rw [hk]; rfl
 have hev:(Fr b tm ds (.code (.rangeFunc f #[q] assign body) :: k)).eval f = .func (.func kk) #[] caps.toArray:=by rw [ht.eval]; exact hf
 refine Lw (s:=Instr.enterLoop b.fn tm #[q] assign body none)
  (f:=fun lm=>(Frame.enter Tryz.prog kk (Value.func (.yield lm.1) #[] #[] :: caps).toArray .normal,Fr b tm (lm.2 ++ ds) (.inRangeFunc lm.1 :: k) :: cs))
  (Q:=fun lm σ'=>∃ r,lm.2 = [{ target:=.collected r,args:=#[] }]∧σ' = (lm.1,Res.obj (.loop { state:=.ready,pending:=none,fn:=b.fn,tmps:=tm,params:=#[q],assign,body,defers:=r })) :: (r,.obj (.deferred (some []))) :: σ)
  (fun W lm W' es hrun=>?_) (Vj fun r l=>⟨r,rfl,rfl⟩) ?_
 ·exact Abv hr hk (by rw [ht.eval]; exact hf) (P:=Tryz.prog) h1 h2 h3 hrun
 rintro ⟨l,mark⟩ σ' ⟨r,hm,rfl⟩
 simp only at hm
 subst hm
 -- the iterator's call
 let L:Loop:={ state:=.ready,pending:=none,fn:=b.fn,tmps:=tm,params:=#[q],assign,body,defers:=r }
 have hcall:=h4 mn X l (fun pre ρ' σ'=>∃ τ,σ' = (l,Res.obj (.loop L)) :: (r,.obj (.deferred (some []))) :: τ∧J pre ρ' τ) ρ ((l,Res.obj (.loop L)) :: (r,.obj (.deferred (some []))) :: σ) .refl
  (fun pre ρ1 ρ2 σ1 hle ⟨τ,e1,e2⟩=>⟨τ,e1,hJm _ _ _ _ hle e2⟩) ⟨σ,rfl,hJ⟩ (fun pre x post ρ' σ' hys hle ⟨τ,e1,e2⟩ rd ds'=>?_)
 ·refine (hcall (Fr b tm ([{ target:=.collected r,args:=#[] }] ++ ds) (.inRangeFunc l :: k)) cs).bind ?_
  rintro _ cs' ρ' σ' ⟨v,rfl,hcs,hle,τ,rfl,hJ'⟩
  subst hcs
  have e1:(Fr b tm ([{ target:=.collected r,args:=#[] }] ++ ds) (.inRangeFunc l :: k)).finish v = Fr b tm ([{ target:=.collected r,args:=#[] }] ++ ds) (.endRangeFunc l :: k):=rfl
  rw [e1]
  refine Lw (s:=Instr.endLoop l) (f:=fun j=>(Fr b tm ([{ target:=.collected r,args:=#[] }] ++ ds) ((j.map Item.code).toList ++ k),cs')) (Q:=fun j σ''=>j = none∧σ'' = (l,Res.obj (.loop { L with state:=.exhausted })) :: (r,.obj (.deferred (some []))) :: τ) (fun W j W' es hrun=>?_) (Zz rfl ⟨rfl,rfl⟩) ?_
  ·exact ⟨seen Tryz.prog b.fn es ++ #[],by simp [Conc.G,stepG,stepG.exec,Fr,-Sem.runT_eq,hrun,GStep.after],fun ev he=>Lh (by simpa using he)⟩
  ·rintro j σ'' ⟨rfl,rfl⟩
   refine .ghost Bri (.stop ⟨rfl,.normal,tm,e,_,k,ht,hend r ρ' τ hle hJ',rfl,rfl⟩)
 ·subst e1
  refine Afw (i:=0) rfl (by simp [L]) ?_
  show RoundH (CX mn X) l b.fn _ assign body ρ' _ _
  have etm:((L.params.zip #[x]).foldl (fun tmps (t,a)=>tmps.setIfInBounds t a) L.tmps) = tm.setIfInBounds q x:=by simp [L]
  rw [etm]
  refine Abr (ht.put hq x) ?_
  refine Adw (hbody l pre x post ρ' τ hys hle e2 [(l,Res.obj (.loop L)),(r,.obj (.deferred (some [])))]) ?_
  rintro ex e1 ds1 ρ1 σ1 ⟨rfl,rfl,hl1,τ1,rfl,hb⟩
  refine ⟨rfl,rfl,0,L,rfl,rfl,?_⟩
  refine Adw (hb [(l,Res.obj (.loop { L with state:=.busy })),(r,.obj (.deferred (some [])))]) ?_
  rintro ex e2 ds2 ρ2 σ2 ⟨rfl,hl2,τ2,rfl,hJ2⟩
  refine ⟨0,{ L with state:=.busy },rfl,rfl,rfl,hl1.trans hl2,τ2,?_,hJ2⟩
  rfl
end
end
section
open Go
section
variable {C:Ctx} {e:Env} {ds:List Deferred} {ρ:Ro} {σ:Own} {K:Value→List Deferred→Ro→Own→Prop} {rd:Option Nat} {dd:Option Tmp}
variable {ty:TypeId} {pos:String} {af:Array Edge} {g:Option (Nat × Bool)} {x y:Operand} {v p:Value} {t t':TypeId}
/-- One element of an owned row is stored. -/
theorem Zx {β:Type} {f:β→Value} {xs:List β} {bv:β} {r i j:Nat} (hz:∃ i,C.P.info? t = some i∧i.size = 1) (hx:Af e x = .pointer (some ⟨r,i,none⟩)) (hy:Af e y = f bv) (hs:single (f bv) = true)
  (hj:σ[j]? = some (r,.obj (.cells (xs.map f).toArray t' (0,0)))) (hi:i < xs.length) (h:K undef ds ρ (σ.set j (r,.obj (.cells ((xs.set i bv).map f).toArray t' (0,0))))) :
  wpS C.P ρ (execOp (Af e) ⟨dd,.store t x y,ty,pos,af,g⟩) σ (NextH C K rd ds ρ):=by
 refine Li (vs:=[f bv]) (c:=xs.map f) (c':=(xs.set i bv).map f) hz hx hy ?_ rfl (by simpa using hs) hj (by simpa using Nat.succ_le_of_lt hi) ?_ h
 ·revert hs
  cases f bv <;> intro hs <;> first | rfl | (simp [single] at hs)
 ·simp only [over,List.map_set]
/-- One element of an owned row is read. -/
theorem Adu {β:Type} {f:β→Value} {xs:List β} {bv:β} {r i j:Nat} (hT:∃ d,C.P.underlying t = some d∧Qv d = false) (hx:Af e x = .pointer (some ⟨r,i,none⟩)) (hj:σ[j]? = some (r,.obj (.cells (xs.map f).toArray t' (0,0)))) (hb:xs[i]? = some bv) (h:K (f bv) ds ρ σ) :
  wpS C.P ρ (execOp (Af e) ⟨dd,.load t x,ty,pos,af,g⟩) σ (NextH C K rd ds ρ) :=
 Dt hT hx hj (by rw [List.getElem?_map,hb]; rfl) h
end
end
section
open Go
theorem Span.open_ {ρ:Ro} {v:Value} {x:Span} (h:Val ρ v x):v = .agg #[.int .i64 x.low,.int .i64 x.high]∧I64 x.low∧I64 x.high:=by
 obtain ⟨cs,⟨q0,r0,f0,⟨a0,b0⟩,⟨a1,b1⟩⟩,hv⟩:=h
 subst f0
 subst a0
 subst a1
 exact ⟨hv,b0,b1⟩
theorem Span.shut {ρ:Ro} {x:Span} (h0:I64 x.low) (h1:I64 x.high):Val ρ (.agg #[.int .i64 x.low,.int .i64 x.high]) x:=⟨[.int .i64 x.low,.int .i64 x.high],⟨[.int .i64 x.low],[.int .i64 x.high],rfl,⟨rfl,h0⟩,⟨rfl,h1⟩⟩,rfl⟩
theorem FField.open_ {ρ:Ro} {v:Value} {x:FField} (h:Val ρ v x):∃ c0,v = .agg #[.string x.name,.int .i64 x.house,.int .i64 x.grows.low,.int .i64 x.grows.high,c0]∧x.name.size < 2 ^ 60∧I64 x.house∧I64 x.grows.low∧I64 x.grows.high∧Val ρ c0 x.marks:=by
 obtain ⟨cs,⟨q0,r0,f0,⟨a0,b0⟩,⟨q1,r1,f1,⟨a1,b1⟩,⟨q2,r2,f2,⟨d2,d2',e2,⟨a2,b2⟩,⟨a2',b2'⟩⟩,⟨w3,a3,b3⟩⟩⟩⟩,hv⟩:=h
 subst f0
 subst f1
 subst f2
 subst a0
 subst a1
 subst e2
 subst a2
 subst a2'
 subst a3
 exact ⟨w3,hv,b0,b1,b2,b2',Cs.2 b3⟩
theorem FField.shut {ρ:Ro} {x:FField} {c0:Value} (h0:x.name.size < 2 ^ 60) (h1:I64 x.house) (h2:I64 x.grows.low) (h3:I64 x.grows.high) (h4:Val ρ c0 x.marks):Val ρ (.agg #[.string x.name,.int .i64 x.house,.int .i64 x.grows.low,.int .i64 x.grows.high,c0]) x:=⟨[.string x.name,.int .i64 x.house,.int .i64 x.grows.low,.int .i64 x.grows.high,c0],⟨[.string x.name],([.int .i64 x.house] ++ ([.int .i64 x.grows.low,.int .i64 x.grows.high] ++ [c0])),rfl,⟨rfl,h0⟩,⟨[.int .i64 x.house],([.int .i64 x.grows.low,.int .i64 x.grows.high] ++ [c0]),rfl,⟨rfl,h1⟩,⟨[.int .i64 x.grows.low,.int .i64 x.grows.high],[c0],rfl,⟨[.int .i64 x.grows.low],[.int .i64 x.grows.high],rfl,⟨rfl,h2⟩,⟨rfl,h3⟩⟩,⟨c0,rfl,Cs.1 h4⟩⟩⟩⟩,rfl⟩
theorem Sale.open_ {ρ:Ro} {v:Value} {x:Sale} (h:Val ρ v x):∃ c0,v = .agg #[.int .i64 x.grams,c0]∧I64 x.grams∧Val ρ c0 x.sellers:=by
 obtain ⟨cs,⟨q0,r0,f0,⟨a0,b0⟩,⟨w1,a1,b1⟩⟩,hv⟩:=h
 subst f0
 subst a0
 subst a1
 exact ⟨w1,hv,b0,Cs.2 b1⟩
theorem Sale.shut {ρ:Ro} {x:Sale} {c0:Value} (h0:I64 x.grams) (h1:Val ρ c0 x.sellers):Val ρ (.agg #[.int .i64 x.grams,c0]) x:=⟨[.int .i64 x.grams,c0],⟨[.int .i64 x.grams],[c0],rfl,⟨rfl,h0⟩,⟨c0,rfl,Cs.1 h1⟩⟩,rfl⟩
theorem Market.open_ {ρ:Ro} {v:Value} {x:Market} (h:Val ρ v x):∃ c0 c1 c2 c3,v = .agg #[c0,c1,c2,c3]∧Val ρ c0 x.houses∧Val ρ c1 x.marks∧Val ρ c2 x.fields∧Val ρ c3 x.sales:=by
 obtain ⟨cs,⟨q0,r0,f0,⟨w0,a0,b0⟩,⟨q1,r1,f1,⟨w1,a1,b1⟩,⟨q2,r2,f2,⟨w2,a2,b2⟩,⟨w3,a3,b3⟩⟩⟩⟩,hv⟩:=h
 subst f0
 subst f1
 subst f2
 subst a0
 subst a1
 subst a2
 subst a3
 exact ⟨w0,w1,w2,w3,hv,Cs.2 b0,Cs.2 b1,Cs.2 b2,Cs.2 b3⟩
theorem Market.shut {ρ:Ro} {x:Market} {c0 c1 c2 c3:Value} (h0:Val ρ c0 x.houses) (h1:Val ρ c1 x.marks) (h2:Val ρ c2 x.fields) (h3:Val ρ c3 x.sales):Val ρ (.agg #[c0,c1,c2,c3]) x:=⟨[c0,c1,c2,c3],⟨[c0],([c1] ++ ([c2] ++ [c3])),rfl,⟨c0,rfl,Cs.1 h0⟩,⟨[c1],([c2] ++ [c3]),rfl,⟨c1,rfl,Cs.1 h1⟩,⟨[c2],[c3],rfl,⟨c2,rfl,Cs.1 h2⟩,⟨c3,rfl,Cs.1 h3⟩⟩⟩⟩,rfl⟩
theorem FTest.open_ {ρ:Ro} {v:Value} {x:FTest} (h:Val ρ v x):∃ c0,v = .agg #[.string x.name,c0,.bool x.errs]∧x.name.size < 2 ^ 60∧Val ρ c0 x.sees:=by
 obtain ⟨cs,⟨q0,r0,f0,⟨a0,b0⟩,⟨q1,r1,f1,⟨w1,a1,b1⟩,a2⟩⟩,hv⟩:=h
 subst f0
 subst f1
 subst a0
 subst a1
 (have a2':=a2; simp only [Dat.rep] at a2'; subst a2')
 exact ⟨w1,hv,b0,Cs.2 b1⟩
theorem FTest.shut {ρ:Ro} {x:FTest} {c0:Value} (h0:x.name.size < 2 ^ 60) (h1:Val ρ c0 x.sees):Val ρ (.agg #[.string x.name,c0,.bool x.errs]) x:=⟨[.string x.name,c0,.bool x.errs],⟨[.string x.name],([c0] ++ [.bool x.errs]),rfl,⟨rfl,h0⟩,⟨[c0],[.bool x.errs],rfl,⟨c0,rfl,Cs.1 h1⟩,rfl⟩⟩,rfl⟩
theorem Lab.open_ {ρ:Ro} {v:Value} {x:Lab} (h:Val ρ v x):∃ c0 c1,v = .agg #[c0,.int .i64 x.most,c1]∧Val ρ c0 x.kinds∧I64 x.most∧Val ρ c1 x.tests:=by
 obtain ⟨cs,⟨q0,r0,f0,⟨w0,a0,b0⟩,⟨q1,r1,f1,⟨a1,b1⟩,⟨w2,a2,b2⟩⟩⟩,hv⟩:=h
 subst f0
 subst f1
 subst a0
 subst a1
 subst a2
 exact ⟨w0,w2,hv,Cs.2 b0,b1,Cs.2 b2⟩
theorem Lab.shut {ρ:Ro} {x:Lab} {c0 c1:Value} (h0:Val ρ c0 x.kinds) (h1:I64 x.most) (h2:Val ρ c1 x.tests):Val ρ (.agg #[c0,.int .i64 x.most,c1]) x:=⟨[c0,.int .i64 x.most,c1],⟨[c0],([.int .i64 x.most] ++ [c1]),rfl,⟨c0,rfl,Cs.1 h0⟩,⟨[.int .i64 x.most],[c1],rfl,⟨rfl,h1⟩,⟨c1,rfl,Cs.1 h2⟩⟩⟩,rfl⟩
theorem Found.open_ {ρ:Ro} {v:Value} {x:Found} (h:Val ρ v x):v = .agg #[.int .i64 x.test,.bool x.found]∧I64 x.test:=by
 obtain ⟨cs,⟨q0,r0,f0,⟨a0,b0⟩,a1⟩,hv⟩:=h
 subst f0
 subst a0
 (have a1':=a1; simp only [Dat.rep] at a1'; subst a1')
 exact ⟨hv,b0⟩
theorem Found.shut {ρ:Ro} {x:Found} (h0:I64 x.test):Val ρ (.agg #[.int .i64 x.test,.bool x.found]) x:=⟨[.int .i64 x.test,.bool x.found],⟨[.int .i64 x.test],[.bool x.found],rfl,⟨rfl,h0⟩,rfl⟩,rfl⟩
theorem FNode.open_ {ρ:Ro} {v:Value} {x:FNode} (h:Val ρ v x):v = .agg #[.int .i64 x.test,.int .i64 x.found,.int .i64 x.not]∧I64 x.test∧I64 x.found∧I64 x.not:=by
 obtain ⟨cs,⟨q0,r0,f0,⟨a0,b0⟩,⟨q1,r1,f1,⟨a1,b1⟩,⟨a2,b2⟩⟩⟩,hv⟩:=h
 subst f0
 subst f1
 subst a0
 subst a1
 subst a2
 exact ⟨hv,b0,b1,b2⟩
theorem FNode.shut {ρ:Ro} {x:FNode} (h0:I64 x.test) (h1:I64 x.found) (h2:I64 x.not):Val ρ (.agg #[.int .i64 x.test,.int .i64 x.found,.int .i64 x.not]) x:=⟨[.int .i64 x.test,.int .i64 x.found,.int .i64 x.not],⟨[.int .i64 x.test],([.int .i64 x.found] ++ [.int .i64 x.not]),rfl,⟨rfl,h0⟩,⟨[.int .i64 x.found],[.int .i64 x.not],rfl,⟨rfl,h1⟩,⟨rfl,h2⟩⟩⟩,rfl⟩
theorem State.open_ {ρ:Ro} {v:Value} {x:State} (h:Val ρ v x):v = .agg #[.int .i64 x.sets,.int .i64 x.left]∧I64 x.sets∧I64 x.left:=by
 obtain ⟨cs,⟨q0,r0,f0,⟨a0,b0⟩,⟨a1,b1⟩⟩,hv⟩:=h
 subst f0
 subst a0
 subst a1
 exact ⟨hv,b0,b1⟩
theorem State.shut {ρ:Ro} {x:State} (h0:I64 x.sets) (h1:I64 x.left):Val ρ (.agg #[.int .i64 x.sets,.int .i64 x.left]) x:=⟨[.int .i64 x.sets,.int .i64 x.left],⟨[.int .i64 x.sets],[.int .i64 x.left],rfl,⟨rfl,h0⟩,⟨rfl,h1⟩⟩,rfl⟩
theorem Place.open_ {ρ:Ro} {v:Value} {x:Place} (h:Val ρ v x):v = .agg #[.int .i64 x.at_,.int .i64 x.sets]∧I64 x.at_∧I64 x.sets:=by
 obtain ⟨cs,⟨q0,r0,f0,⟨a0,b0⟩,⟨a1,b1⟩⟩,hv⟩:=h
 subst f0
 subst a0
 subst a1
 exact ⟨hv,b0,b1⟩
theorem Place.shut {ρ:Ro} {x:Place} (h0:I64 x.at_) (h1:I64 x.sets):Val ρ (.agg #[.int .i64 x.at_,.int .i64 x.sets]) x:=⟨[.int .i64 x.at_,.int .i64 x.sets],⟨[.int .i64 x.at_],[.int .i64 x.sets],rfl,⟨rfl,h0⟩,⟨rfl,h1⟩⟩,rfl⟩
theorem Probe.open_ {ρ:Ro} {v:Value} {x:Probe} (h:Val ρ v x):v = .agg #[.bool x.errs,.int .i64 x.sure,.int .i64 x.unsure]∧I64 x.sure∧I64 x.unsure:=by
 obtain ⟨cs,⟨q0,r0,f0,a0,⟨q1,r1,f1,⟨a1,b1⟩,⟨a2,b2⟩⟩⟩,hv⟩:=h
 subst f0
 subst f1
 (have a0':=a0; simp only [Dat.rep] at a0'; subst a0')
 subst a1
 subst a2
 exact ⟨hv,b1,b2⟩
theorem Probe.shut {ρ:Ro} {x:Probe} (h0:I64 x.sure) (h1:I64 x.unsure):Val ρ (.agg #[.bool x.errs,.int .i64 x.sure,.int .i64 x.unsure]) x:=⟨[.bool x.errs,.int .i64 x.sure,.int .i64 x.unsure],⟨[.bool x.errs],([.int .i64 x.sure] ++ [.int .i64 x.unsure]),rfl,rfl,⟨[.int .i64 x.sure],[.int .i64 x.unsure],rfl,⟨rfl,h0⟩,⟨rfl,h1⟩⟩⟩,rfl⟩
end
section
open Go Go.Conc
open Go.ConcN (sumTo sumTo_upd upd_ne upd_same)
/-- It stands at a send of v. -/
def Amv (P:Program) (c:Nat) (v z:Value) (fr:Frame) (cs:List Frame):Prop :=
 ∀ W,stepG P false (G fr cs) W = .comm (G fr cs) #[scase c v z] true .send W #[]
/-- It stands at the close,and only leaves behind it. -/
def Acm (P:Program) (c:Nat) (fr:Frame) (cs:List Frame):Prop :=
 mayWake P (G fr cs) = true∧∃ n g',QuitsIn P n g'∧∀ W s r tm,W.heap[c]? = some (.chan 0 #[] false s r tm) →
  stepG P false (G fr cs) W = .go g' (W.setChan c 0 #[] true s r tm) #[⟨.obj c,false,true⟩,⟨.obj c,true,true⟩]
def noX:Frame→List Frame→Ro→Own→Cy→Prop:=fun _ _ _ _ _=>False
/-- A worker's context. -/
def Wn (P:Program):Ctx:=⟨P,false,noX⟩
/-- A sender: these values,then the close. -/
inductive SendI (P:Program) (c:Nat):List Value→Frame→List Frame→Ro→Own→Prop
 | ghost {vs fr cs ρ σ ρ' σ'}:Ghost ρ σ ρ' σ'→SendI P c vs fr cs ρ' σ'→SendI P c vs fr cs ρ σ
 | step {vs fr cs ρ σ} (K:Frame→List Frame→Own→Prop):Aal (Wn P) fr cs ρ σ K→(∀ fr' cs' σ',K fr' cs' σ'→SendI P c vs fr' cs' ρ σ')→SendI P c vs fr cs ρ σ
 | send {v vs z fr cs ρ σ}:Amv P c v z fr cs→SendI P c vs (fr.finish undef) cs ρ σ→SendI P c (v :: vs) fr cs ρ σ
 | close {fr cs ρ σ}:Acm P c fr cs→SendI P c [] fr cs ρ σ
theorem SendI.of_goes {P:Program} {c:Nat} {vs:List Value} {S:Cy} {fr:Frame} {cs:List Frame} {ρ:Ro} {σ:Own} (h:GoesH (Wn P) S fr cs ρ σ) (hk:∀ fr cs ρ σ,S fr cs ρ σ→SendI P c vs fr cs ρ σ):SendI P c vs fr cs ρ σ:=by
 induction h with
 | stop h=>exact hk _ _ _ _ h
 | ghost hg _ ih=>exact .ghost hg ih
 | step K h1 _ ih=>exact .step K h1 ih
 | ext K h1 _ _=>exact h1.elim
def Jp (σ:Own):Prop:=∀ c vs,(c,Res.recv vs) ∉ σ
def Gg (P:Program) (d:Deferred):Frame:={ (default:Frame) with fn:=P.funcs.size,defers:=[d],mode:=.panicking [goexitEntry] }
/-- It stands at a receive. -/
def Sv (P:Program) (c:Nat) (z:Value) (fr:Frame) (cs:List Frame):Prop :=
 ∀ W,stepG P true (G fr cs) W = .comm (G fr cs) #[rcase c z] true (.recv true) W #[]
/-- WHAT THE FIRST GOROUTINE MAY RELY ON BESIDE ITS OWN STEPS: a go statement whose child sends these values and closes; a receive of the next of them; a receive that finds the channel closed. -/
def Ade (P:Program):Frame→List Frame→Ro→Own→Cy→Prop:=fun fr cs ρ σ K =>
 (∃ d i c vs fr',(∀ W,stepG P true (G fr cs) W = .spawn (G fr' cs) (G (Gg P d) []) W #[])∧Jp σ∧σ[i]? = some (c,Res.chan)∧SendI P c vs (Gg P d) [] ρ []∧K fr' cs ρ (σ.set i (c,.recv vs))) ∨
 (∃ i c v vs z,Sv P c z fr cs∧σ[i]? = some (c,Res.recv (v :: vs))∧K (fr.finish (.tuple #[v,.bool true])) cs ρ (σ.set i (c,.recv vs))) ∨
 (∃ i c z,Sv P c z fr cs∧σ[i]? = some (c,Res.recv [])∧K (fr.finish (.tuple #[z,.bool false])) cs ρ (σ.eraseIdx i))
def Iw (P:Program):Ctx:=⟨P,true,Ade P⟩
def Is (g:Goroutine) (fr:Frame) (cs:List Frame):Prop:=g.status = .running∧g.frame = fr∧g.callers = cs∧g.dying = none
theorem Is.step {P:Program} {main:Bool} {g:Goroutine} {fr:Frame} {cs:List Frame} (h:Is g fr cs) (W:World):stepG P main g W = stepG P main (G fr cs) W :=
 stepG_same h.2.1 h.2.2.1 h.2.2.2 W
theorem Is.of (fr:Frame) (cs:List Frame):Is (G fr cs) fr cs:=⟨rfl,rfl,rfl,rfl⟩
theorem Is.served {fr:Frame} {cs:List Frame} {g:Goroutine} (h:Is g fr cs) (v:Value):Is (Conc.served g v) (fr.finish v) cs:=⟨rfl,by simp [Conc.served,h.2.1],h.2.2.1,h.2.2.2⟩
def Acc (ρ:Ro) (σ:Own) (k:Nat) (wr:Bool):Prop:=(∃ o,(k,Res.obj o) ∈ σ)∨(wr = false∧(ρ k).isSome = true)
def Lx:Loc→Option Nat
 | .cell a=>some a.block
 | .obj r=>some r
 | _=>none
def Akj (ρ:Ro) (σ:Own) (b:Touch):Prop:=b.kind = .plain∧∃ k,Lx b.loc = some k∧Acc ρ σ k b.write
theorem Abe {ρ:Ro} {σ:Own} {es:Array Event} (h:∀ e ∈ es,EvOk ρ σ e) (g:Nat) (fn:FuncId) (pos:String) :
  Wordless (MemOp.ofEvents g fn pos es)∧∀ op ∈ MemOp.ofEvents g fn pos es,op.g = g∧∀ b,op.act.touch? = some b→Akj ρ σ b:=by
 rw [ofEvents_eq]
 refine ⟨fun op hop=>?_,fun op hop=>?_⟩ <;> obtain ⟨e,he,rfl⟩:=Array.mem_map.1 hop
 ·refine ofEvent_noMark fun m hm=>?_
  rcases h e he with ⟨a,h1,_⟩ | ⟨r,h1,_⟩ | ⟨m',h1,h2⟩
  ·rw [h1] at hm; cases hm
  ·rw [h1] at hm; cases hm
  ·rw [h1] at hm; cases hm; exact h2
 ·refine ⟨rfl,fun b hb=>?_⟩
  obtain ⟨loc,wr,sy⟩:=e
  rcases h _ he with ⟨a,h1,h2,h3⟩ | ⟨r,h1,h2,h3⟩ | ⟨m',h1,h2⟩
  ·simp only at h1 h2; subst h1 h2
   have hb':some (⟨.cell a,wr,.plain⟩:Touch) = some b:=hb
   cases hb'
   exact ⟨rfl,a.block,rfl,h3⟩
  ·simp only at h1 h2; subst h1 h2
   have hb':some (⟨.obj r,wr,.plain⟩:Touch) = some b:=by cases wr <;> exact hb
   cases hb'
   exact ⟨rfl,r,rfl,h3⟩
  ·simp only at h1; subst h1
   have e1:MemAct.ofEvent ⟨.mark m',wr,sy⟩ = .mark m':=by cases wr <;> cases sy <;> rfl
   simp only [e1,h2.touch] at hb
   cases hb
/-- Operations that touch nothing bring no race. -/
theorem Ni {said:Bool} {t u:Trace} (h:¬ Race said t) (hu:∀ op ∈ u,op.act.touch? = none):¬ Race said (t ++ u):=by
 rintro ⟨i,j,hij,⟨a,b,ha,hb,hc⟩,n1,n2⟩
 obtain ⟨x,hx,hxa⟩:=touch_of ha
 obtain ⟨y,hy,hyb⟩:=touch_of hb
 rcases getElem?_append_cases hy with ⟨hj,hy'⟩ | ⟨hj,hyu⟩
 ·have hi:i < t.size:=Nat.lt_trans hij hj
  have hx':t[i]? = some x:=by rw [← getElem?_append_old (u:=u) hi]; exact hx
  exact h ⟨i,j,hij,⟨a,b,by simp [Trace.act?,hx',hxa],by simp [Trace.act?,hy',hyb],hc⟩,fun e=>n1 (hb_app u e),fun e=>n2 (hb_app u e)⟩
 ·rw [hu y hyu] at hyb; cases hyb
/-- Nobody has touched memory without the first goroutine's knowing it. -/
structure TA (t:Trace):Prop where
 wl:Wordless t
 clean:∀ said,¬ Race said t
 known:∀ i a,touchAt t i = some a→a.loc.isMemory = true→Knows t 0 i
theorem Di {t u:Trace} {i:Nat} {a:Touch} (h:touchAt (t ++ u) i = some a):touchAt t i = some a∨∃ op,(t ++ u)[i]? = some op∧op ∈ u∧op.act.touch? = some a∧t.size ≤ i:=by
 obtain ⟨x,hx,hxa⟩:=touch_of h
 rcases getElem?_append_cases hx with ⟨_,hx'⟩ | ⟨hge,hxu⟩
 ·exact .inl (by rw [touchAt_of hx']; exact hxa)
 ·exact .inr ⟨x,hx,hxu,hxa,hge⟩
theorem TA.own {t u:Trace} (h:TA t) (hw:Wordless u) (hu:∀ op ∈ u,op.g = 0):TA (t ++ u):=by
 refine ⟨h.wl.append hw,fun said=>noRace_append (h.clean said) hu fun i a ha op _ b _ hc=>h.known i a ha hc.2.1,fun i a ha hm=>?_⟩
 rcases Di ha with h1 | ⟨op,h1,h2,_,_⟩
 ·exact (h.known i a h1 hm).app u
 ·have:=knows_own h1; rwa [hu op h2] at this
theorem TA.nil:TA #[]:=by
 refine ⟨fun op hop=>by simp at hop,fun said ⟨i,j,_,⟨a,b,ha,_⟩,_⟩=>?_,fun i a ha=>?_⟩
 ·simp [Trace.act?] at ha
 ·simp [touchAt,Trace.act?] at ha
theorem TA.handed {t:Trace} (h:TA t):t.HandedOver:=by
 intro i g hg hne ⟨x,hx,hm,_⟩
 obtain ⟨q,z,h1,h2,h3⟩:=h.known i x hx hm
 refine ⟨q,by simp [Trace.g?,h1,h2],h3.resolve_left ?_⟩
 rintro rfl
 simp [Trace.g?,h1,h2] at hg
 exact hne hg.symm
/-- What the one of two who run beside each other has touched: its own,or (to read it) what is shared. -/
def Th (A Sh:Nat→Prop) (c:Nat) (a:Touch):Prop :=
 (a.kind = .plain∧∃ k,Lx a.loc = some k∧(A k∨(a.write = false∧Sh k)))∨(a.loc = .obj c∧a.kind = .atomic)
/-- While a worker (number j) runs beside the first goroutine. -/
structure TB (t:Trace) (j c:Nat) (Am Aw Sh:Nat→Prop):Prop where
 wl:Wordless t
 clean:∀ said,¬ Race said t
 k0:∀ i a,touchAt t i = some a→a.loc.isMemory = true→Knows t 0 i∨((∃ op,t[i]? = some op∧op.g = j)∧Th Aw Sh c a)
 kj:∀ i a,touchAt t i = some a→a.loc.isMemory = true→Knows t j i∨Th Am Sh c a
/-- Two touches that conflict: not a worker's and the first goroutine's. -/
theorem Ul {A B Sh:Nat→Prop} {c:Nat} {a b:Touch} {said:Bool} (hd:∀ k,A k→B k→False) (hA:∀ k,A k→Sh k→False) (hB:∀ k,B k→Sh k→False) (hc:¬ B c∧¬ Sh c)
  (ha:Th A Sh c a) (hb:b.kind = .plain∧∃ k,Lx b.loc = some k∧(B k∨(b.write = false∧Sh k))) (h:a.conflicts said b):False:=by
 obtain ⟨hl,_,hwr,_⟩:=h
 obtain ⟨_,k',hk',hb⟩:=hb
 rcases ha with ⟨_,k,hk,ha⟩ | ha
 ·rw [hl,hk'] at hk
  cases hk
  rcases ha with ha | ⟨ha1,ha2⟩ <;> rcases hb with hb | ⟨hb1,hb2⟩
  ·exact hd _ ha hb
  ·exact hA _ ha hb2
  ·exact hB _ hb ha2
  ·rcases hwr with h | h
   ·rw [ha1] at h; cases h
   ·rw [hb1] at h; cases h
 ·rw [← hl,ha.1] at hk'
  cases hk'
  rcases hb with hb | ⟨_,hb⟩
  ·exact hc.1 hb
  ·exact hc.2 hb
section
variable {t u:Trace} {j c:Nat} {Am Aw Sh Am' Aw':Nat→Prop}
theorem Th.mono {A A':Nat→Prop} (h:∀ k,A k→A' k) {a:Touch} (ha:Th A Sh c a):Th A' Sh c a :=
 ha.imp (fun ⟨h1,k,h2,h3⟩=>⟨h1,k,h2,h3.imp (h k) id⟩) id
/-- The first goroutine acts. -/
theorem TB.main (h:TB t j c Am Aw Sh) (hj:j ≠ 0) (hsub:∀ k,Am k→Am' k) (hd:∀ k,Aw k→Am' k→False) (hS:∀ k,Am' k→Sh k→False) (hS':∀ k,Aw k→Sh k→False) (hc:¬ Am' c∧¬ Sh c)
  (hw:Wordless u) (hu:∀ op ∈ u,op.g = 0∧∀ b,op.act.touch? = some b→b.kind = .plain∧∃ k,Lx b.loc = some k∧(Am' k∨(b.write = false∧Sh k))):TB (t ++ u) j c Am' Aw Sh:=by
 refine ⟨h.wl.append hw,fun said=>noRace_append (h.clean said) (fun op hop=>(hu op hop).1) fun i a ha op hop b hb hcf=>?_,fun i a ha hm=>?_,fun i a ha hm=>?_⟩
 ·rcases h.k0 i a ha hcf.2.1 with h1 | ⟨_,h1⟩
  ·exact h1
  ·exact (Ul hd hS' hS hc h1 ((hu op hop).2 b hb) hcf).elim
 ·rcases Di ha with h1 | ⟨op,h1,h2,_,_⟩
  ·rcases h.k0 i a h1 hm with h3 | ⟨⟨op,h4,h5⟩,h3⟩
   ·exact .inl (h3.app u)
   ·exact .inr ⟨⟨op,by rw [getElem?_append_old (lt_size_of_getElem? h4)]; exact h4,h5⟩,h3⟩
  ·have:=knows_own h1; rw [(hu op h2).1] at this; exact .inl this
 ·rcases Di ha with h1 | ⟨op,h1,h2,h3,hge⟩
  ·exact (h.kj i a h1 hm).imp (·.app u) (·.mono hsub)
  ·exact .inr (.inl ((hu op h2).2 a h3))
/-- The worker acts. -/
theorem TB.work (h:TB t j c Am Aw Sh) (hsub:∀ k,Aw k→Aw' k) (hd:∀ k,Am k→Aw' k→False) (hS:∀ k,Aw' k→Sh k→False) (hS':∀ k,Am k→Sh k→False) (hc:¬ Aw' c∧¬ Sh c)
  (hw:Wordless u) (hu:∀ op ∈ u,op.g = j∧∀ b,op.act.touch? = some b→b.kind = .plain∧∃ k,Lx b.loc = some k∧(Aw' k∨(b.write = false∧Sh k))):TB (t ++ u) j c Am Aw' Sh:=by
 refine ⟨h.wl.append hw,fun said=>noRace_append (h.clean said) (fun op hop=>(hu op hop).1) fun i a ha op hop b hb hcf=>?_,fun i a ha hm=>?_,fun i a ha hm=>?_⟩
 ·rcases h.kj i a ha hcf.2.1 with h1 | h1
  ·exact h1
  ·exact (Ul hd hS' hS hc h1 ((hu op hop).2 b hb) hcf).elim
 ·rcases Di ha with h1 | ⟨op,h1,h2,h3,hge⟩
  ·rcases h.k0 i a h1 hm with h3 | ⟨⟨op,h4,h5⟩,h3⟩
   ·exact .inl (h3.app u)
   ·exact .inr ⟨⟨op,by rw [getElem?_append_old (lt_size_of_getElem? h4)]; exact h4,h5⟩,h3.mono hsub⟩
  ·exact .inr ⟨⟨op,h1,(hu op h2).1⟩,.inl ((hu op h2).2 a h3)⟩
 ·rcases Di ha with h1 | ⟨op,h1,h2,_,_⟩
  ·exact (h.kj i a h1 hm).imp (·.app u) id
  ·have:=knows_own h1; rw [(hu op h2).1] at this; exact .inl this
/-- Operations that touch nothing. -/
theorem TB.mute (h:TB t j c Am Aw Sh) (hw:Wordless u) (hu:∀ op ∈ u,op.act.touch? = none):TB (t ++ u) j c Am Aw Sh:=by
 refine ⟨h.wl.append hw,fun said=>Ni (h.clean said) hu,fun i a ha hm=>?_,fun i a ha hm=>?_⟩
 ·rcases Di ha with h1 | ⟨op,_,h2,h3,_⟩
  ·rcases h.k0 i a h1 hm with h3 | ⟨⟨op,h4,h5⟩,h3⟩
   ·exact .inl (h3.app u)
   ·exact .inr ⟨⟨op,by rw [getElem?_append_old (lt_size_of_getElem? h4)]; exact h4,h5⟩,h3⟩
  ·rw [hu op h2] at h3; cases h3
 ·rcases Di ha with h1 | ⟨op,_,h2,h3,_⟩
  ·exact (h.kj i a h1 hm).imp (·.app u) id
  ·rw [hu op h2] at h3; cases h3
/-- A go statement. -/
theorem TA.fork (h:TA t) (hj:j ≠ 0) {x y:MemOp} (hx:x.g = 0∧x.act = .go j) (hy:y.g = j∧y.act = .start):TB ((t.push x).push y) j c Am (fun _=>False) Sh:=by
 have e:(t.push x).push y = t ++ #[x,y]:=by rw [Array.push_eq_append,Array.push_eq_append,Array.append_assoc]; rfl
 have hmute:∀ op ∈ #[x,y],op.act.touch? = none:=fun op hop=>by
  have:op = x∨op = y:=by simpa using hop
  rcases this with rfl | rfl
  ·rw [hx.2]; rfl
  ·rw [hy.2]; rfl
 have hwl:Wordless #[x,y]:=fun op hop m hm=>by
  have:op = x∨op = y:=by simpa using hop
  rcases this with rfl | rfl
  ·rw [hx.2] at hm; cases hm
  ·rw [hy.2] at hm; cases hm
 rw [e]
 have hwl':=h.wl.append hwl
 have hxat:(t ++ #[x,y])[t.size]? = some x:=by rw [Array.getElem?_append_right (Nat.le_refl _)]; simp
 have hyat:(t ++ #[x,y])[t.size + 1]? = some y:=by rw [Array.getElem?_append_right (Nat.le_succ _)]; simp
 have hsp:HappensBefore (t ++ #[x,y]) t.size (t.size + 1):=.single (.inr ⟨.spawn (child:=j) (by simp [Trace.act?,hxat,hx.2]) (by simp [Trace.act?,hyat,hy.2]) (by simp [Trace.g?,hyat,hy.1]),hwl'.heard hxat,hwl'.heard hyat⟩)
 refine ⟨hwl',fun said=>Ni (h.clean said) hmute,fun i a ha hm=>?_,fun i a ha hm=>?_⟩
 ·rcases Di ha with h1 | ⟨op,_,h2,h3,_⟩
  ·exact .inl ((h.known i a h1 hm).app _)
  ·rw [hmute op h2] at h3; cases h3
 ·rcases Di ha with h1 | ⟨op,_,h2,h3,_⟩
  ·obtain ⟨q,z,hq,hz,hb⟩:=h.known i a h1 hm
   have hlt:=lt_size_of_getElem? hq
   have h4:HappensBefore (t ++ #[x,y]) q t.size:=hb_po hlt (by rw [getElem?_append_old hlt]; exact hq) hxat (hz.trans hx.1.symm)
   exact .inl ⟨t.size + 1,y,hyat,hy.1,.inr ((hb.app _).hb (h4.trans hsp))⟩
  ·rw [hmute op h2] at h3; cases h3
/-- The worker has closed its channel; nothing more is to come of it. -/
structure TC (t:Trace) (j c pc:Nat) (Aw Sh:Nat→Prop):Prop where
 wl:Wordless t
 clean:∀ said,¬ Race said t
 at_:∃ op,t[pc]? = some op∧op.g = j∧op.act = .close c
 k0:∀ i a,touchAt t i = some a→a.loc.isMemory = true→Knows t 0 i∨(Before t i pc∧Th Aw Sh c a)
theorem TB.close (h:TB t j c Am Aw Sh) (fn:FuncId) (pos:String) (hcm:¬ Am c∧¬ Sh c) :
  ∃ pc,TC (t ++ MemOp.ofEvents j fn pos #[⟨.obj c,false,true⟩,⟨.obj c,true,true⟩]) j c pc Aw Sh:=by
 have e1:MemOp.ofEvents j fn pos #[⟨.obj c,false,true⟩,⟨.obj c,true,true⟩] = #[{ g:=j,fn,pos,act:=.access ⟨.obj c,false,true⟩ },{ g:=j,fn,pos,act:=.close c }]:=by
  rw [ofEvents_eq]; simp [MemAct.ofEvent]
 rw [e1]
 generalize hxx:({ g:=j,fn,pos,act:=.access ⟨.obj c,false,true⟩ }:MemOp) = x
 generalize hyy:({ g:=j,fn,pos,act:=.close c }:MemOp) = y
 have hwl:Wordless #[x,y]:=fun op hop m hm=>by
  have:op = x∨op = y:=by simpa using hop
  rcases this with rfl | rfl
  ·subst hxx; cases hm
  ·subst hyy; cases hm
 have hwl':=h.wl.append hwl
 have hxat:(t ++ #[x,y])[t.size]? = some x:=by rw [Array.getElem?_append_right (Nat.le_refl _)]; simp
 have hyat:(t ++ #[x,y])[t.size + 1]? = some y:=by rw [Array.getElem?_append_right (Nat.le_succ _)]; simp
 have hg:∀ op ∈ #[x,y],op.g = j:=fun op hop=>by
  have:op = x∨op = y:=by simpa using hop
  rcases this with rfl | rfl
  ·subst hxx; rfl
  ·subst hyy; rfl
 have htouch:∀ op ∈ #[x,y],∀ b,op.act.touch? = some b→b = ⟨.obj c,false,.atomic⟩:=fun op hop b hb=>by
  have:op = x∨op = y:=by simpa using hop
  rcases this with rfl | rfl
  ·subst hxx
   have hb':some (⟨.obj c,false,.atomic⟩:Touch) = some b:=hb
   cases hb'; rfl
  ·subst hyy; cases hb
 refine ⟨t.size + 1,hwl',fun said=>noRace_append (h.clean said) hg fun i a ha op hop b hb hcf=>?_,⟨y,hyat,by subst hyy; rfl,by subst hyy; rfl⟩,fun i a ha hm=>?_⟩
 ·rcases h.kj i a ha hcf.2.1 with h1 | h1
  ·exact h1
  ·exfalso
   rw [htouch op hop b hb] at hcf
   obtain ⟨hl,_,hwr,hk⟩:=hcf
   rcases h1 with ⟨h1,k,h2,h3⟩ | h1
   ·rw [hl] at h2
    cases h2
    rcases h3 with h3 | ⟨_,h3⟩
    ·exact hcm.1 h3
    ·exact hcm.2 h3
   ·rw [h1.2] at hk
    rcases hk with hk | hk | ⟨_,hk,_⟩ <;> cases hk
 ·rcases Di ha with h1 | ⟨op,h1,h2,h3,hge⟩
  ·rcases h.k0 i a h1 hm with h3 | ⟨⟨op,h4,h5⟩,h3⟩
   ·exact .inl (h3.app _)
   ·have hlt:=lt_size_of_getElem? h4
    exact .inr ⟨.inr (hb_po (by omega) (by rw [getElem?_append_old hlt]; exact h4) hyat (by rw [h5]; subst hyy; rfl)),h3⟩
  ·refine .inr ⟨?_,.inr (by rw [htouch op h2 a h3]; exact ⟨rfl,rfl⟩)⟩
   have hi:i = t.size∨i = t.size + 1:=by
    have:=lt_size_of_getElem? h1
    simp at this
    omega
   rcases hi with rfl | rfl
   ·exact .inr (hb_po (by omega) hxat hyat (by subst hxx hyy; rfl))
   ·exact .inl rfl
end
end
end Go.Proofs.YtphgjjmlnkgghaaGreatDoor
