/- Contracts of the functions that the law TA reaches, and the law itself, for every input; no condition. -/
import Derived.KernelRfl
import Derived.Test.YtilfohjlglefjaaGreatProg
import Derived.Test.YtilfohjlglefjaaGreatTA2
set_option linter.unusedSimpArgs false
set_option linter.unusedVariables false
namespace Go.Proofs.YtilfohjlglefjaaGreat
open Go Go.Proofs
def aHp:gV:=(11,[(.agg [(iV 2),(iV 0),(.sl [[(.sl [[(iV 1)],[(iV 0)]])],[(.sl [[(iV 1)],[(iV 0)]])]]),(.sl [[(.sl [[(iV 1014)],[(iV 0)]])],[(.sl [[(iV 2016)],[(iV 1)]])]])]),(iV 1),(iV 1)],(.tup [(.agg [(iV 1),(iV 1),(iV 0),(.sl [[(.sl [[(iV 1)],[(iV 0)]])],[(.sl [[(iV 1)],[(iV 0)]])]]),(.sl [[(.sl [[(iV 1)],[(iV 0)]])],[(.sl [[(iV 2)],[(iV 0)]])]]),(.sl [[(.sl [[(iV 0),(iV 10)],[(iV (-1)),(iV 0)]])],[(.sl [[(iV 0),(iV 10)],[(iV (-1)),(iV 0)]])]])]),(iV 0)]))
theorem aEp:bB Tryz.prog aHp.1 aHp.2.1 aHp.2.2:=fI (l:=[]) (fun p hp=>by simp only [List.not_mem_nil] at hp) rfl (by kernel_rfl)
def aEP:gV:=(41,[(.agg [(iV 2),(iV 0),(.sl [[(.sl [[(iV 1)],[(iV 0)]])],[(.sl [[(iV 1)],[(iV 0)]])]]),(.sl [[(.sl [[(iV 1014)],[(iV 0)]])],[(.sl [[(iV 2016)],[(iV 1)]])]])]),(.agg [(iV 2),(iV 0),(.sl [[(.sl [[(iV 1)],[(iV 0)]])],[(.sl [[(iV 1)],[(iV 0)]])]]),(.sl [[(.sl [[(iV 1014)],[(iV 0)]])],[(.sl [[(iV 2017)],[(iV 1)]])]])])],(.tup [(.sl [[(iV 0)],[(iV 0)]]),(.bool true),(iV 0)]))
theorem aAz:bB Tryz.prog aEP.1 aEP.2.1 aEP.2.2:=fI (l:=[]) (fun p hp=>by simp only [List.not_mem_nil] at hp) rfl (by kernel_rfl)
def aFG:gV:=(71,[(.agg [(iV 2),(iV 0),(.sl [[(.sl [[(iV 1)],[(iV 0)]])],[(.sl [[(iV 1)],[(iV 0)]])]]),(.sl [[(.sl [[(iV 1014)],[(iV 0)]])],[(.sl [[(iV 2016)],[(iV 1)]])]])]),(.agg [(iV 2),(.sl [[(.sl [[(iV 0)]]),(.sl [[(iV 1014)]])],[(.sl [[(iV 1)]]),(.sl [[(iV 0)]])]])]),.nilsl],(.tup [(.agg [(iV 2),(.sl [[(.sl [[(iV 0)]]),(.sl [[(iV 1014)]])],[(.sl [[(iV 1)]]),(.sl [[(iV 0)]])]])]),(iV 0)]))
theorem aAG:bB Tryz.prog aFG.1 aFG.2.1 aFG.2.2:=fI (l:=[]) (fun p hp=>by simp only [List.not_mem_nil] at hp) rfl (by kernel_rfl)
def aFr:gV:=(71,[(.agg [(iV 2),(iV 0),(.sl [[(.sl [[(iV 1)],[(iV 0)]])],[(.sl [[(iV 1)],[(iV 0)]])]]),(.sl [[(.sl [[(iV 1014)],[(iV 0)]])],[(.sl [[(iV 2016)],[(iV 1)]])]])]),(.agg [(iV 2),(.sl [[(.sl [[(iV 1)]]),(.sl [[(iV 0)]])],[(.sl [[(iV 0)],[(iV 0)]]),(.sl [[(iV 1014)],[(iV 2016)]])]])]),(.sl [[(.sl [[(iV 1)],[(iV 0)]])],[(.sl [[(iV 0)],[(iV 0)],[(iV 0)]])],[(.sl [[(iV 0)],[(iV 1)],[(iV 0)]])]])],(.tup [(.agg [(iV 2),(.sl [[(.sl [[(iV 1)],[(iV 0)]]),(.sl [[(iV 0)],[(iV 1014)]])],[(.sl [[(iV 0)],[(iV 0)],[(iV 0)]]),(.sl [[(iV 1014)],[(iV 2016)],[(iV 2016)]])],[(.sl [[(iV 0)],[(iV 1)],[(iV 0)]]),(.sl [[(iV 1014)],[(iV 1)],[(iV 1014)]])]])]),(iV 0)]))
theorem aAi:bB Tryz.prog aFr.1 aFr.2.1 aFr.2.2:=fI (l:=[]) (fun p hp=>by simp only [List.not_mem_nil] at hp) rfl (by kernel_rfl)
def aFm:gV:=(41,[(.agg [(iV 2),(iV 0),(.sl [[(.sl [[(iV 1)],[(iV 0)]])],[(.sl [[(iV 1)],[(iV 0)]])]]),(.sl [[(.sl [[(iV 1014)],[(iV 0)]])],[(.sl [[(iV 2016)],[(iV 1)]])]])]),(.agg [(iV 2),(iV 0),(.sl [[(.sl [[(iV 1)],[(iV 0)]])],[(.sl [[(iV 1)],[(iV 0)]])]]),(.sl [[(.sl [[(iV 1014)],[(iV 0)]])],[(.sl [[(iV 2016)],[(iV 1)]])]])])],(.tup [.nilsl,(.bool false),(iV 0)]))
theorem aAX:bB Tryz.prog aFm.1 aFm.2.1 aFm.2.2:=fI (l:=[]) (fun p hp=>by simp only [List.not_mem_nil] at hp) rfl (by kernel_rfl)
def aHu:gV:=(11,[(.agg [(iV 2),(iV 0),(.sl [[(.sl [[(iV 1)],[(iV 0)]])],[(.sl [[(iV 1)],[(iV 0)]])]]),(.sl [[(.sl [[(iV 1014)],[(iV 0)]])],[(.sl [[(iV 2016)],[(iV 1)]])]])]),(iV 2),(iV 1)],(.tup [(.agg [(iV 0),(iV 0),(iV 0),.nilsl,.nilsl,.nilsl]),(iV 15)]))
theorem aDx:bB Tryz.prog aHu.1 aHu.2.1 aHu.2.2:=fI (l:=[]) (fun p hp=>by simp only [List.not_mem_nil] at hp) rfl (by kernel_rfl)
def aJ6:gV:=(70,[(.agg [(iV 2),(.sl [[(.bool true),.nilsl,.nilsl,.nilsl,.nilsl]])]),(.agg [(iV 2),.nilsl])],(.tup [(.agg [(iV 2),(.sl [[(.bool true),.nilsl,.nilsl,.nilsl,.nilsl]])]),(.sl [[(.sl [[(iV 0)]])],[(.sl [[(iV 1)]])]]),(.bool false),(iV 0)]))
theorem aJm:bB Tryz.prog aJ6.1 aJ6.2.1 aJ6.2.2:=fI (l:=[]) (fun p hp=>by simp only [List.not_mem_nil] at hp) rfl (by kernel_rfl)
def aH7:gV:=(72,[(.agg [(iV 2),(.sl [[(.bool true),.nilsl,.nilsl,.nilsl,.nilsl]])]),(.agg [(iV 2),(.sl [[(.sl [[(iV 0)]]),(.sl [[(iV 1014)]])],[(.sl [[(iV 1)]]),(.sl [[(iV 0)]])]])])],(.tup [(.agg [(iV 2),(iV 0),(.sl [[(.sl [[(iV 0)],[(iV 0)]])]]),(.sl [[(.sl [[(iV 1014)],[(iV 0)]])]]),(.sl [[(.sl [])]])]),(iV 0)]))
theorem aJJ:bB Tryz.prog aH7.1 aH7.2.1 aH7.2.2:=fI (l:=[]) (fun p hp=>by simp only [List.not_mem_nil] at hp) rfl (by kernel_rfl)
def aIr:gV:=(70,[(.agg [(iV 2),(.sl [[(.bool false),.nilsl,(.sl [[(iV 0)]]),(.sl [[(.sl [[(iV 1014)]])],[(.sl [[(iV 2016)]])]]),(.sl [[(iV 1)],[(iV 2)]])],[(.bool true),(.sl []),(.sl []),(.sl []),(.sl [])],[(.bool true),(.sl [[(iV 0)]]),.nilsl,.nilsl,.nilsl]])]),(.agg [(iV 2),(.sl [[(.sl [[(iV 1)],[(iV 0)]]),(.sl [[(iV 0)],[(iV 1014)]])],[(.sl [[(iV 0)],[(iV 0)],[(iV 0)]]),(.sl [[(iV 1014)],[(iV 2016)],[(iV 2016)]])],[(.sl [[(iV 0)],[(iV 1)],[(iV 0)]]),(.sl [[(iV 1014)],[(iV 1)],[(iV 1014)]])]])])],(.tup [(.agg [(iV 2),(.sl [[(.bool false),.nilsl,(.sl [[(iV 0)]]),(.sl [[(.sl [[(iV 1014)]])],[(.sl [[(iV 2016)]])]]),(.sl [[(iV 1)],[(iV 2)]])],[(.bool true),(.sl []),(.sl []),(.sl []),(.sl [])],[(.bool true),(.sl [[(iV 0)]]),.nilsl,.nilsl,.nilsl]])]),.nilsl,(.bool true),(iV 0)]))
theorem aJb:bB Tryz.prog aIr.1 aIr.2.1 aIr.2.2:=fI (l:=[]) (fun p hp=>by simp only [List.not_mem_nil] at hp) rfl (by kernel_rfl)
def aFy:gV:=(71,[(.agg [(iV 2),(iV 0),(.sl [[(.sl [[(iV 1)],[(iV 0)]])],[(.sl [[(iV 1)],[(iV 0)]])]]),(.sl [[(.sl [[(iV 1014)],[(iV 0)]])],[(.sl [[(iV 2016)],[(iV 1)]])]])]),(.agg [(iV 2),(.sl [[(.sl [[(iV 0)]]),(.sl [[(iV 1014)]])],[(.sl [[(iV 1)]]),(.sl [[(iV 0)]])]])]),(.sl [[(.sl [[(iV 0)],[(iV 0)]])]])],(.tup [(.agg [(iV 2),(.sl [[(.sl [[(iV 1)]]),(.sl [[(iV 0)]])],[(.sl [[(iV 0)],[(iV 0)]]),(.sl [[(iV 1014)],[(iV 2016)]])]])]),(iV 0)]))
theorem aAu:bB Tryz.prog aFy.1 aFy.2.1 aFy.2.2:=fI (l:=[]) (fun p hp=>by simp only [List.not_mem_nil] at hp) rfl (by kernel_rfl)
def xP:gV:=(40,[(.agg [(iV 1),(iV 1),(iV 0),(.sl [[(.sl [[(iV 1)],[(iV 0)]])],[(.sl [[(iV 1)],[(iV 0)]])]]),(.sl [[(.sl [[(iV 1)],[(iV 3)]])],[(.sl [[(iV 2)],[(iV 0)]])]]),(.sl [[(.sl [[(iV 0),(iV 10)],[(iV (-1)),(iV 0)]])],[(.sl [[(iV 0),(iV 10)],[(iV (-1)),(iV 0)]])]])])],(.tup [(.agg [(iV 2),(iV 0),(.sl [[(.sl [[(iV 1)],[(iV 0)]])],[(.sl [[(iV 1)],[(iV 0)]])]]),(.sl [[(.sl [[(iV 1014)],[(iV 0)]])],[(.sl [[(iV 2016)],[(iV 1)]])]])]),(iV 0)]))
theorem uT:bB Tryz.prog xP.1 xP.2.1 xP.2.2:=fI (l:=[]) (fun p hp=>by simp only [List.not_mem_nil] at hp) rfl (by kernel_rfl)
def zC:gV:=(71,[(.agg [(iV 2),(iV 0),(.sl [[(.sl [[(iV 1)],[(iV 0)]])],[(.sl [[(iV 1)],[(iV 0)]])]]),(.sl [[(.sl [[(iV 1014)],[(iV 0)]])],[(.sl [[(iV 2016)],[(iV 1)]])]])]),(.agg [(iV 2),.nilsl]),(.sl [[(.sl [[(iV 0)]])],[(.sl [[(iV 1)]])]])],(.tup [(.agg [(iV 2),(.sl [[(.sl [[(iV 0)]]),(.sl [[(iV 1014)]])],[(.sl [[(iV 1)]]),(.sl [[(iV 0)]])]])]),(iV 0)]))
theorem wG:bB Tryz.prog zC.1 zC.2.1 zC.2.2:=fI (l:=[]) (fun p hp=>by simp only [List.not_mem_nil] at hp) rfl (by kernel_rfl)
def xS:gV:=(41,[(.agg [(iV 2),(iV 0),(.sl [[(.sl [[(iV 0)],[(iV 0)]])]]),(.sl [[(.sl [[(iV 1014)],[(iV 0)]])]])]),(.agg [(iV 2),(iV 0),(.sl [[(.sl [[(iV 1)],[(iV 0)]])],[(.sl [[(iV 1)],[(iV 0)]])]]),(.sl [[(.sl [[(iV 1014)],[(iV 0)]])],[(.sl [[(iV 2016)],[(iV 1)]])]])])],(.tup [(.sl [[(iV 0)],[(iV 0)]]),(.bool true),(iV 0)]))
theorem wL:bB Tryz.prog xS.1 xS.2.1 xS.2.2:=fI (l:=[]) (fun p hp=>by simp only [List.not_mem_nil] at hp) rfl (by kernel_rfl)
def zA:gV:=(71,[(.agg [(iV 2),(iV 0),(.sl [[(.sl [[(iV 1)],[(iV 0)]])],[(.sl [[(iV 1)],[(iV 0)]])]]),(.sl [[(.sl [[(iV 1014)],[(iV 0)]])],[(.sl [[(iV 2016)],[(iV 1)]])]])]),(.agg [(iV 2),(.sl [[(.sl [[(iV 1)],[(iV 0)]]),(.sl [[(iV 0)],[(iV 1014)]])],[(.sl [[(iV 0)],[(iV 0)],[(iV 0)]]),(.sl [[(iV 1014)],[(iV 2016)],[(iV 2016)]])],[(.sl [[(iV 0)],[(iV 1)],[(iV 0)]]),(.sl [[(iV 1014)],[(iV 1)],[(iV 1014)]])]])]),.nilsl],(.tup [(.agg [(iV 2),(.sl [[(.sl [[(iV 1)],[(iV 0)]]),(.sl [[(iV 0)],[(iV 1014)]])],[(.sl [[(iV 0)],[(iV 0)],[(iV 0)]]),(.sl [[(iV 1014)],[(iV 2016)],[(iV 2016)]])],[(.sl [[(iV 0)],[(iV 1)],[(iV 0)]]),(.sl [[(iV 1014)],[(iV 1)],[(iV 1014)]])]])]),(iV 0)]))
theorem vV:bB Tryz.prog zA.1 zA.2.1 zA.2.2:=fI (l:=[]) (fun p hp=>by simp only [List.not_mem_nil] at hp) rfl (by kernel_rfl)
def aB7:gV:=(99,[(.agg [(iV 2),(iV 0),(.sl [[(.sl [[(iV 0)],[(iV 0)]])]]),(.sl [[(.sl [[(iV 1014)],[(iV 0)]])]]),(.sl [[(.sl [])]])]),(.agg [(iV 2),(.sl [[(.sl [[(iV 1)]]),(.sl [[(iV 0)]])],[(.sl [[(iV 0)],[(iV 0)]]),(.sl [[(iV 1014)],[(iV 2016)]])]])]),(.sl [[(iV 0)],[(iV 0)]])],(.tup [(.agg [(.sl []),(iV 0),(.sl [[(iV 0)]])]),.nilsl,(iV 0)]))
theorem aBh:bB Tryz.prog aB7.1 aB7.2.1 aB7.2.2:=fI (l:=[]) (fun p hp=>by simp only [List.not_mem_nil] at hp) rfl (by kernel_rfl)
def yF:gV:=(40,[(.agg [(iV 1),(iV 1),(iV 0),(.sl [[(.sl [[(iV 1)],[(iV 0)]])],[(.sl [[(iV 1)],[(iV 0)]])]]),(.sl [[(.sl [[(iV 1)],[(iV 3)]])],[(.sl [[(iV 2)],[(iV 0)]])]]),(.sl [[(.sl [[(iV 0),(iV 10)],[(iV (-1)),(iV 0)]])],[(.sl [[(iV 0),(iV 11)],[(iV (-1)),(iV 0)]])]])])],(.tup [(.agg [(iV 2),(iV 0),(.sl [[(.sl [[(iV 1)],[(iV 0)]])],[(.sl [[(iV 1)],[(iV 0)]])]]),(.sl [[(.sl [[(iV 1014)],[(iV 0)]])],[(.sl [[(iV 2017)],[(iV 1)]])]])]),(iV 0)]))
theorem wD:bB Tryz.prog yF.1 yF.2.1 yF.2.2:=fI (l:=[]) (fun p hp=>by simp only [List.not_mem_nil] at hp) rfl (by kernel_rfl)
def aEy:gV:=(70,[(.agg [(iV 2),(.sl [[(.bool true),.nilsl,.nilsl,.nilsl,.nilsl]])]),(.agg [(iV 2),(.sl [[(.sl [[(iV 0)]]),(.sl [[(iV 1014)]])],[(.sl [[(iV 1)]]),(.sl [[(iV 0)]])]])])],(.tup [(.agg [(iV 2),(.sl [[(.bool true),.nilsl,.nilsl,.nilsl,.nilsl]])]),.nilsl,(.bool true),(iV 0)]))
theorem aHe:bB Tryz.prog aEy.1 aEy.2.1 aEy.2.2:=fI (l:=[]) (fun p hp=>by simp only [List.not_mem_nil] at hp) rfl (by kernel_rfl)
def aDu:gV:=(70,[(.agg [(iV 2),(.sl [[(.bool false),.nilsl,(.sl [[(iV 0)]]),(.sl [[(.sl [[(iV 1014)]])],[(.sl [[(iV 2016)]])]]),(.sl [[(iV 1)],[(iV 2)]])],[(.bool true),(.sl []),(.sl []),(.sl []),(.sl [])],[(.bool true),(.sl [[(iV 0)]]),.nilsl,.nilsl,.nilsl]])]),(.agg [(iV 2),(.sl [[(.sl [[(iV 1)]]),(.sl [[(iV 0)]])],[(.sl [[(iV 0)],[(iV 0)]]),(.sl [[(iV 1014)],[(iV 2016)]])]])])],(.tup [(.agg [(iV 2),(.sl [[(.bool false),.nilsl,(.sl [[(iV 0)]]),(.sl [[(.sl [[(iV 1014)]])],[(.sl [[(iV 2016)]])]]),(.sl [[(iV 1)],[(iV 2)]])],[(.bool true),(.sl []),(.sl []),(.sl []),(.sl [])],[(.bool true),(.sl [[(iV 0)]]),.nilsl,.nilsl,.nilsl]])]),(.sl [[(.sl [[(iV 1)],[(iV 0)]])],[(.sl [[(iV 0)],[(iV 0)],[(iV 0)]])],[(.sl [[(iV 0)],[(iV 1)],[(iV 0)]])]]),(.bool false),(iV 0)]))
theorem aGO:bB Tryz.prog aDu.1 aDu.2.1 aDu.2.2:=fI (l:=[]) (fun p hp=>by simp only [List.not_mem_nil] at hp) rfl (by kernel_rfl)
def aDT:gV:=(72,[(.agg [(iV 2),(.sl [[(.bool false),.nilsl,(.sl [[(iV 0)]]),(.sl [[(.sl [[(iV 1014)]])],[(.sl [[(iV 2016)]])]]),(.sl [[(iV 1)],[(iV 2)]])],[(.bool true),(.sl []),(.sl []),(.sl []),(.sl [])],[(.bool true),(.sl [[(iV 0)]]),.nilsl,.nilsl,.nilsl]])]),(.agg [(iV 2),(.sl [[(.sl [[(iV 1)],[(iV 0)]]),(.sl [[(iV 0)],[(iV 1014)]])],[(.sl [[(iV 0)],[(iV 0)],[(iV 0)]]),(.sl [[(iV 1014)],[(iV 2016)],[(iV 2016)]])],[(.sl [[(iV 0)],[(iV 1)],[(iV 0)]]),(.sl [[(iV 1014)],[(iV 1)],[(iV 1014)]])]])])],(.tup [(.agg [(iV 2),(iV 0),(.sl [[(.sl [[(iV 1)],[(iV 0)]])],[(.sl [[(iV 1)],[(iV 0)]])]]),(.sl [[(.sl [[(iV 1014)],[(iV 0)]])],[(.sl [[(iV 2016)],[(iV 1)]])]]),(.sl [[(.sl [])],[(.sl [[(iV 0)]])]])]),(iV 0)]))
theorem aG4:bB Tryz.prog aDT.1 aDT.2.1 aDT.2.2:=fI (l:=[]) (fun p hp=>by simp only [List.not_mem_nil] at hp) rfl (by kernel_rfl)
def aBq:gV:=(100,[(.agg [(iV 2),(.sl [[(.bool true),.nilsl,.nilsl,.nilsl,.nilsl]])]),(.agg [(iV 2),(.sl [[(.sl [[(iV 1)]]),(.sl [[(iV 0)]])],[(.sl [[(iV 0)],[(iV 0)]]),(.sl [[(iV 1014)],[(iV 2016)]])]])]),(.agg [(.sl []),(iV 0),(.sl [[(iV 0)]])])],(.tup [(.agg [(iV 2),(.sl [[(.bool false),.nilsl,(.sl [[(iV 0)]]),(.sl [[(.sl [[(iV 1014)]])],[(.sl [[(iV 2016)]])]]),(.sl [[(iV 1)],[(iV 2)]])],[(.bool true),(.sl []),(.sl []),(.sl []),(.sl [])],[(.bool true),(.sl [[(iV 0)]]),.nilsl,.nilsl,.nilsl]])]),.nilsl,(iV 0)]))
theorem aB6:bB Tryz.prog aBq.1 aBq.2.1 aBq.2.2:=fI (l:=[]) (fun p hp=>by simp only [List.not_mem_nil] at hp) rfl (by kernel_rfl)
def aDj:gV:=(15,[(.agg [(iV 1),(iV 1),(iV 0),(.sl [[(.sl [[(iV 1)],[(iV 0)]])],[(.sl [[(iV 1)],[(iV 0)]])]]),(.sl [[(.sl [[(iV 1)],[(iV 3)]])],[(.sl [[(iV 2)],[(iV 0)]])]]),(.sl [[(.sl [[(iV 0),(iV 10)],[(iV (-1)),(iV 0)]])],[(.sl [[(iV 0),(iV 10)],[(iV (-1)),(iV 0)]])]])]),(.agg [(iV 1),(iV 1),(iV 0),(.sl [[(.sl [[(iV 1)],[(iV 0)]])],[(.sl [[(iV 1)],[(iV 0)]])]]),(.sl [[(.sl [[(iV 1)],[(iV 3)]])],[(.sl [[(iV 2)],[(iV 0)]])]]),(.sl [[(.sl [[(iV 0),(iV 10)],[(iV (-1)),(iV 0)]])],[(.sl [[(iV 0),(iV 11)],[(iV (-1)),(iV 0)]])]])])],(.tup [(.sl [[(iV 0)],[(iV 0)]]),(.bool true),(iV 0)]))
theorem aGU:bB Tryz.prog aDj.1 aDj.2.1 aDj.2.2:=fI (l:=[aEP,aFG,aFr,aFm,aFy,xP,zC,xS,zA,aB7,yF,aBq]) (fun p hp=>by
  simp only [List.mem_cons,List.not_mem_nil,or_false] at hp
  rcases hp with rfl|rfl|rfl|rfl|rfl|rfl|rfl|rfl|rfl|rfl|rfl|rfl
  · exact aAz
  · exact aAG
  · exact aAi
  · exact aAX
  · exact aAu
  · exact uT
  · exact wG
  · exact wL
  · exact vV
  · exact aBh
  · exact wD
  · exact aB6) rfl (by kernel_rfl)
def aDQ:gV:=(73,[(.agg [(iV 2),(.sl [[(.bool true),.nilsl,.nilsl,.nilsl,.nilsl]]),(iV 2),(.sl [[(.sl [[(iV 0)]]),(.sl [[(iV 1014)]])],[(.sl [[(iV 1)]]),(.sl [[(iV 0)]])]])]),(.agg [(iV 2),(iV 0),(.sl [[(.sl [[(iV 1)],[(iV 0)]])],[(.sl [[(iV 1)],[(iV 0)]])]]),(.sl [[(.sl [[(iV 1014)],[(iV 0)]])],[(.sl [[(iV 2016)],[(iV 1)]])]])]),(.agg [(iV 2),(iV 0),(.sl [[(.sl [[(iV 0)],[(iV 0)]])]]),(.sl [[(.sl [[(iV 1014)],[(iV 0)]])]]),(.sl [[(.sl [])]])]),(.sl [[(iV 0)],[(iV 0)]])],(.tup [(.agg [(iV 2),(.sl [[(.bool false),.nilsl,(.sl [[(iV 0)]]),(.sl [[(.sl [[(iV 1014)]])],[(.sl [[(iV 2016)]])]]),(.sl [[(iV 1)],[(iV 2)]])],[(.bool true),(.sl []),(.sl []),(.sl []),(.sl [])],[(.bool true),(.sl [[(iV 0)]]),.nilsl,.nilsl,.nilsl]]),(iV 2),(.sl [[(.sl [[(iV 1)]]),(.sl [[(iV 0)]])],[(.sl [[(iV 0)],[(iV 0)]]),(.sl [[(iV 1014)],[(iV 2016)]])]])]),(iV 0)]))
theorem aGD:bB Tryz.prog aDQ.1 aDQ.2.1 aDQ.2.2:=fI (l:=[aEP,aFG,aFr,aFm,aFy,xP,zC,xS,zA,aB7,yF,aBq]) (fun p hp=>by
  simp only [List.mem_cons,List.not_mem_nil,or_false] at hp
  rcases hp with rfl|rfl|rfl|rfl|rfl|rfl|rfl|rfl|rfl|rfl|rfl|rfl
  · exact aAz
  · exact aAG
  · exact aAi
  · exact aAX
  · exact aAu
  · exact uT
  · exact wG
  · exact wL
  · exact vV
  · exact aBh
  · exact wD
  · exact aB6) rfl (by kernel_rfl)
def aDK:gV:=(43,[(.agg [(iV 2),(iV 0),(.sl [[(.sl [[(iV 1)],[(iV 0)]])],[(.sl [[(iV 1)],[(iV 0)]])]]),(.sl [[(.sl [[(iV 1014)],[(iV 0)]])],[(.sl [[(iV 2016)],[(iV 1)]])]])])],(.tup [(.agg [(iV 2),(iV 0),(.sl [[(.sl [[(iV 1)],[(iV 0)]])],[(.sl [[(iV 1)],[(iV 0)]])]]),(.sl [[(.sl [[(iV 1014)],[(iV 0)]])],[(.sl [[(iV 2016)],[(iV 1)]])]]),(.sl [[(.sl [])],[(.sl [[(iV 0)]])]])]),(.agg [(iV 2),(.sl [[(.sl [[(iV 1)],[(iV 0)]]),(.sl [[(iV 0)],[(iV 1014)]])],[(.sl [[(iV 0)],[(iV 0)],[(iV 0)]]),(.sl [[(iV 1014)],[(iV 2016)],[(iV 2016)]])],[(.sl [[(iV 0)],[(iV 1)],[(iV 0)]]),(.sl [[(iV 1014)],[(iV 1)],[(iV 1014)]])]])]),(iV 2),(iV 0)]))
theorem aHa:bB Tryz.prog aDK.1 aDK.2.1 aDK.2.2:=fI (l:=[aEP,aFG,aFr,aFm,aJ6,aH7,aIr,aFy,zC,xS,zA,aEy,aDu,aDT,aDQ]) (fun p hp=>by
  simp only [List.mem_cons,List.not_mem_nil,or_false] at hp
  rcases hp with rfl|rfl|rfl|rfl|rfl|rfl|rfl|rfl|rfl|rfl|rfl|rfl|rfl|rfl|rfl
  · exact aAz
  · exact aAG
  · exact aAi
  · exact aAX
  · exact aJm
  · exact aJJ
  · exact aJb
  · exact aAu
  · exact wG
  · exact wL
  · exact vV
  · exact aHe
  · exact aGO
  · exact aG4
  · exact aGD) rfl (by kernel_rfl)
def aEr:gV:=(19,[(.agg [(iV 1),(iV 1),(iV 0),(.sl [[(.sl [[(iV 1)],[(iV 0)]])],[(.sl [[(iV 1)],[(iV 0)]])]]),(.sl [[(.sl [[(iV 1)],[(iV 3)]])],[(.sl [[(iV 2)],[(iV 0)]])]]),(.sl [[(.sl [[(iV 0),(iV 10)],[(iV (-1)),(iV 0)]])],[(.sl [[(iV 0),(iV 10)],[(iV (-1)),(iV 0)]])]])])],(.tup [(.agg [(iV 1),(iV 1),(iV 0),(.sl [[(.sl [[(iV 1)],[(iV 0)]])],[(.sl [[(iV 1)],[(iV 0)]])]]),(.sl [[(.sl [[(iV 1)],[(iV 0)]])],[(.sl [[(iV 2)],[(iV 0)]])]]),(.sl [[(.sl [[(iV 0),(iV 10)],[(iV (-1)),(iV 0)]])],[(.sl [[(iV 0),(iV 10)],[(iV (-1)),(iV 0)]])]])]),(iV 0)]))
theorem aF2:bB Tryz.prog aEr.1 aEr.2.1 aEr.2.2:=fI (l:=[aHp,aHu,xP,yF,aDK]) (fun p hp=>by
  simp only [List.mem_cons,List.not_mem_nil,or_false] at hp
  rcases hp with rfl|rfl|rfl|rfl|rfl
  · exact aEp
  · exact aDx
  · exact uT
  · exact wD
  · exact aHa) rfl (by kernel_rfl)
theorem eE:bB Tryz.prog 10 [] (.bool true):=fI (l:=[aHp,aHu,aDj,aEr]) (fun p hp=>by
  simp only [List.mem_cons,List.not_mem_nil,or_false] at hp
  rcases hp with rfl|rfl|rfl|rfl
  · exact aEp
  · exact aDx
  · exact aGU
  · exact aF2) rfl (by kernel_rfl)
def aS4:List SO:=[
 qF 3 3 1,
 ql 4 3,
 qN 5 4,
 qC 6 .leq 5 8,
 qM 7 6,
 ⟨some (7,true),some 8,.fld 4 (.t 1)⟩,
 ⟨some (7,true),some 9,.load false 1 (.t 8)⟩,
 ⟨some (7,true),some 10,.len (.t 9)⟩,
 ⟨some (7,true),some 11,.bin .leq (.t 10) (.c (.int .i64 8))⟩,
 sO 12 (.pick (.t 7) (.t 11) (.c (.bool false))),
 qM 13 12,
 ⟨some (13,true),some 14,.fld 5 (.t 1)⟩,
 ⟨some (13,true),some 15,.load false 1 (.t 14)⟩,
 ⟨some (13,true),some 16,.len (.t 15)⟩,
 ⟨some (13,true),some 17,.bin .leq (.t 16) (.c (.int .i64 8))⟩,
 sO 18 (.pick (.t 13) (.t 17) (.c (.bool false))),
 qM 19 18,
 ⟨some (19,true),some 20,.fld 0 (.t 1)⟩,
 ⟨some (19,true),some 21,.load false 1 (.t 20)⟩,
 ⟨some (19,true),some 22,.bin .leq (.t 21) (.c (.int .i64 4))⟩,
 sO 23 (.pick (.t 19) (.t 22) (.c (.bool false))),
 qM 2 23]
def s14:SF:=⟨24,[.tmp 2],.seq (.reg [sO 1 (.box 29 6 (.t 0)),sO 2 (.mv (.c (.bool false)))]) (.seq (.reg aS4) (.ret))⟩
theorem aNs:aL Tryz.prog ⟨[58,129,130,131,149,155,161,182,183,185,191,192,208,209,210,224,228,231,236],[],[],[]⟩ Tryz.f14=some s14:=by kernel_rfl
end Go.Proofs.YtilfohjlglefjaaGreat
namespace Go.Proofs.YtilfohjlglefjaaGreat
open Go
structure Ts where
  i:Int
  t:Dt
  deriving Inhabited
structure Xt where
  w:List Int
  n:Int
  deriving Inhabited
structure Spl where
  p:List Int
  a:Int
  x:List Int
  deriving Inhabited
abbrev cXt (e:Xt):List V:=[aS e.w,iV e.n]
theorem Ts.eq_iff {a b:Ts}:a=b↔a.i=b.i∧a.t=b.t:=by cases a; cases b; simp
instance:DecidableEq Ts:=fun _ _=>decidable_of_iff _ Ts.eq_iff.symm
@[simp] theorem aOI (l:List Xt):eZ (l.map cXt)=true:=fS _ _ fun a=>by simp [cXt]
def wdE (l:Ts) (k:Nat):Int:=if dX (nth l.t.nd k).ac l.i≠0 then dX (nth l.t.nd k).ac l.i else dX (nth l.t.nd k).sf l.i
def tvE (l:Ts):Int:=if l.i < 1∨64 < l.i then 2 else if dvE l.t≠0 then dvE l.t else if fe (wdE l) 0 l.t.nd.length≠0 then fe (wdE l) 0 l.t.nd.length else if []∉acL l.t.nd then 1 else if 128 < (acL l.t.nd).length then 11 else 0
def tsE (l:Ts) (o:Ob):Int:=if tvE l≠0 then tvE l else if l.i≠o.i then 15 else 0
theorem aBJ {l : Ts} (h : tvE l = 0) : 1 ≤ l.i ∧ l.i ≤ 64 ∧ dvE l.t = 0 ∧ (∀ k, k < l.t.nd.length → dX (nth l.t.nd k).ac l.i = 0 ∧ dX (nth l.t.nd k).sf l.i = 0) ∧ [] ∈ acL l.t.nd ∧ (acL l.t.nd).length ≤ 128 := by
  unfold tvE at h
  split at h
  · omega
  · split at h
    · rename_i q; exact (q h).elim
    · split at h
      · rename_i q; exact (q h).elim
      · rename_i q
        split at h
        · omega
        · rename_i q2
          split at h
          · omega
          · refine ⟨by omega,by omega,by omega,fun k hk=>?_,Decidable.not_not.1 q2,by omega⟩
            have:=cE.1 (Decidable.not_not.1 q) k (Nat.zero_le _) (by omega)
            unfold wdE at this
            split at this
            · rename_i q3; exact (q3 this).elim
            · rename_i q3; exact ⟨Decidable.not_not.1 q3,this⟩
theorem aTH {l:Ts} {o:Ob} (h:tsE l o=0):tvE l=0∧l.i=o.i:=by
  unfold tsE at h
  split at h
  · rename_i q; exact (q h).elim
  · rename_i q
    split at h
    · omega
    · rename_i q2; exact ⟨Decidable.not_not.1 q,Decidable.not_not.1 q2⟩
def lvs (t:Dt):List (List Int):=if dvE t=0 then sdW (acL t.nd) else []
theorem rK {t:Dt} (h:dvE t=0):lvs t=sdW (acL t.nd):=if_pos h
def ex1 (i:Int) (p:List Int):List (List Int):=(List.range i.toNat).map fun (a:Nat)=>cat [p,[(a:Int)]]
def exs (l:Ts):List (List Int):=(lvs l.t).flatMap (ex1 l.i)
theorem aD4 {l:List Nd} {w:List Int} (h:w∈acL l): ∃ k,k < l.length∧(nth l k).lf=true∧(nth l k).ac=w:=by
  unfold acL at h
  obtain ⟨x,hx,rfl⟩:=List.mem_map.1 h
  rw [List.mem_filter] at hx
  obtain ⟨k,hk,rfl⟩:=dP hx.1
  exact ⟨k,hk,hx.2,rfl⟩
theorem aA6 {l:Ts} (h:tvE l=0) {w:List Int} (hw:w∈lvs l.t):w.length≤1024∧dX w l.i=0:=by
  obtain ⟨_,_,hv,hq,_,_⟩:=aBJ h
  rw [rK hv] at hw
  obtain ⟨k,hk,_,rfl⟩:=aD4 ((eV _ _).1 hw)
  exact ⟨(qB (hq k hk).1).1,(hq k hk).1⟩
theorem aIn {l:Ts} {w:List Int} (hw:w∈exs l): ∃ p a,p∈lvs l.t∧0≤a∧a < l.i∧w=p++[a]:=by
  unfold exs at hw
  obtain ⟨p,hp,hq⟩:=List.mem_flatMap.1 hw
  unfold ex1 at hq
  obtain ⟨a,ha,rfl⟩:=List.mem_map.1 hq
  rw [List.mem_range] at ha
  exact ⟨p,a,hp,by omega,by omega,by simp [cat]⟩
theorem aGs {l:Ts} (h:tvE l=0) {w:List Int} (hw:w∈exs l):w.length≤1025∧0 < w.length∧ ∀ k,k < w.length→0≤nth w k∧nth w k < l.i:=by
  obtain ⟨p,a,hp,h0,h1,rfl⟩:=aIn hw
  obtain ⟨q1,q2⟩:=aA6 h hp
  have q3:=qB q2
  rw [List.length_append]
  refine ⟨by simp only [List.length_singleton]; omega,by simp,fun k hk=>?_⟩
  rw [List.length_singleton] at hk
  by_cases e:k < p.length
  · rw [bD e]; exact q3.2 k e
  · have:nth (p++[a]) (p.length+(k - p.length))=nth [a] (k - p.length):=cO
    rw [show p.length+(k - p.length)=k by omega,show k - p.length=0 by omega,eA] at this
    rw [this]; exact ⟨h0,h1⟩
def sqE (l:Ts) (o:Ob) (k:Nat):Int:=(bW l.t o (nth (exs l) k)).2.2
def sfE (l:Ts) (o:Ob):Int:=fe (sqE l o) 0 (exs l).length
def qr1 (t:Dt) (o:Ob) (w:List Int):List (List Int):=(if (ans o w).isSome=true then [] else [w])++(if 0 < (bW t o w).2.1.length then [(bW t o w).2.1] else [])
def qra (l:Ts) (o:Ob):List (List Int):=(exs l).flatMap (qr1 l.t o)
def bho (o:Ob) (w x:List Int):List Int:=((ans o (cat [w,x])).getD []).drop w.length
def inx (l:Ts) (o:Ob) (k:Nat):Bool:= !(nth l.t.nd (bW l.t o (nth (exs l) k)).1.toNat).lf
def tsN (l:Ts) (o:Ob):Int:=fi (inx l o) 0 (exs l).length
def tsW (l:Ts) (o:Ob):List Int:=nth (exs l) (tsN l o).toNat
def tsM (l:Ts) (o:Ob):Int:=(bW l.t o (tsW l o)).1
def tsO (l:Ts) (o:Ob):List Int:=bho o (tsW l o) (nth l.t.nd (tsM l o).toNat).sf
def tst (l:Ts) (o:Ob):Ts×List (List Int)×Bool×Int:=
  if tsE l o≠0 then (l,[],false,tsE l o) else if sfE l o≠0 then (l,[],false,sfE l o) else if 0 < (mxW (qra l o)).length then (l,mxW (qra l o),false,0)
  else if tsN l o < 0 then (l,[],true,0) else if 128≤(acL l.t.nd).length then (l,[],false,11)
  else if grE l.t (tsM l o) (tsO l o) (tsW l o)≠0 then (l,[],false,grE l.t (tsM l o) (tsO l o) (tsW l o))
  else (⟨l.i,grT l.t (tsM l o) (tsO l o) (tsW l o)⟩,[],false,0)
section
variable {l:Ts} {o:Ob}
theorem aPy (h:tsE l o≠0):tst l o=(l,[],false,tsE l o):=if_pos h
theorem aOu (h: ¬tsE l o≠0) (h2:sfE l o≠0):tst l o=(l,[],false,sfE l o):=by unfold tst; rw [if_neg h,if_pos h2]
theorem aIb (h: ¬tsE l o≠0) (h2: ¬sfE l o≠0) (h3:0 < (mxW (qra l o)).length):tst l o=(l,mxW (qra l o),false,0):=by unfold tst; rw [if_neg h,if_neg h2,if_pos h3]
theorem aGb (h: ¬tsE l o≠0) (h2: ¬sfE l o≠0) (h3: ¬0 < (mxW (qra l o)).length) (h4:tsN l o < 0):tst l o=(l,[],true,0):=by unfold tst; rw [if_neg h,if_neg h2,if_neg h3,if_pos h4]
theorem aIg (h: ¬tsE l o≠0) (h2: ¬sfE l o≠0) (h3: ¬0 < (mxW (qra l o)).length) (h4:0≤tsN l o) (h5:128≤(acL l.t.nd).length):tst l o=(l,[],false,11):=by
  unfold tst; rw [if_neg h,if_neg h2,if_neg h3,if_neg (by omega),if_pos h5]
variable {k:Nat}
theorem aQo (h: ¬tsE l o≠0) (h2: ¬sfE l o≠0) (h3: ¬0 < (mxW (qra l o)).length) (h4:tsN l o=(k:Int)) (h5:(acL l.t.nd).length < 128)
    (h6:grE l.t (bW l.t o (nth (exs l) k)).1 (bho o (nth (exs l) k) (nth l.t.nd (bW l.t o (nth (exs l) k)).1.toNat).sf) (nth (exs l) k)≠0):
    tst l o=(l,[],false,grE l.t (bW l.t o (nth (exs l) k)).1 (bho o (nth (exs l) k) (nth l.t.nd (bW l.t o (nth (exs l) k)).1.toNat).sf) (nth (exs l) k)):=by
  unfold tst tsO tsM tsW; rw [if_neg h,if_neg h2,if_neg h3,if_neg (by omega),if_neg (by omega),h4,Int.toNat_natCast,if_pos h6]
theorem aPE (h: ¬tsE l o≠0) (h2: ¬sfE l o≠0) (h3: ¬0 < (mxW (qra l o)).length) (h4:tsN l o=(k:Int)) (h5:(acL l.t.nd).length < 128)
    (h6: ¬grE l.t (bW l.t o (nth (exs l) k)).1 (bho o (nth (exs l) k) (nth l.t.nd (bW l.t o (nth (exs l) k)).1.toNat).sf) (nth (exs l) k)≠0):
    tst l o=(⟨l.i,grT l.t (bW l.t o (nth (exs l) k)).1 (bho o (nth (exs l) k) (nth l.t.nd (bW l.t o (nth (exs l) k)).1.toNat).sf) (nth (exs l) k)⟩,[],false,0):=by
  unfold tst tsO tsM tsW; rw [if_neg h,if_neg h2,if_neg h3,if_neg (by omega),if_neg (by omega),h4,Int.toNat_natCast,if_neg h6]
end
theorem xR {t : Dt} {o : Ob} {w : List Int} (hv : dvE t = 0) : ∀ (f n : Nat), Rk t f n → (jY t o w f n).2.2 = 0 → (jY t o w f n).2.1 = [] →
    0≤(jY t o w f n).1∧(jY t o w f n).1 < t.nd.length∧((nth t.nd (jY t o w f n).1.toNat).lf=false→(ans o (cat [w,(nth t.nd (jY t o w f n).1.toNat).sf])).isSome=true∧ ¬lxH (nth t.nd (jY t o w f n).1.toNat).ou (((ans o (cat [w,(nth t.nd (jY t o w f n).1.toNat).sf])).getD []).drop w.length))
  |0,n,hr,_,_=>absurd hr.pos (by omega)
  | f + 1, n, hr, he, hq => by
    have hlt:=hr.lt hv
    by_cases hl:(nth t.nd n).lf=true
    · rw [aBA hr.pos hl]
      exact ⟨Int.natCast_nonneg _,by show (n:Int) < _; omega,fun h=>by simp only [Int.toNat_natCast] at h; rw [hl] at h; cases h⟩
    · have hl:(nth t.nd n).lf=false:=by simpa using hl
      by_cases h1:dX (cat [w,(nth t.nd n).sf]) o.i≠0
      · rw [aEC hr.pos hl h1] at he; exact (h1 he).elim
      · by_cases h2:(ans o (cat [w,(nth t.nd n).sf])).isSome=true
        · by_cases h3:lxH (nth t.nd n).ou (((ans o (cat [w,(nth t.nd n).sf])).getD []).drop w.length)
          · rw [aF4 hr.pos hl h1 h2 h3] at he hq ⊢
            have hin:=yX hv hlt hl
            have hm:nth (nth t.nd n).kd (lxN (nth t.nd n).ou (((ans o (cat [w,(nth t.nd n).sf])).getD []).drop w.length))∈(nth t.nd n).kd:=bF (by have:=h3.1; have:=hin.len; omega)
            exact xR hv f _ (hr.step hm (hin.kr _ hm).1) he hq
          · rw [aGw hr.pos hl h1 h2 h3]
            exact ⟨Int.natCast_nonneg _,by show (n:Int) < _; omega,fun _=>⟨h2,h3⟩⟩
        · have h2:(ans o (cat [w,(nth t.nd n).sf])).isSome=false:=by simpa using h2
          rw [aDG hr.pos hl h1 h2] at hq
          have hin:=yX hv hlt hl
          have:(cat [w,(nth t.nd n).sf]).length=0:=by rw [show cat [w,(nth t.nd n).sf]=[] from hq]; rfl
          simp only [cat,List.append_nil,List.length_append] at this
          have:=hin.s0
          omega
theorem aHR {t:Dt} {o:Ob} {w:List Int} (he:(bW t o w).2.2=0) (hq:(bW t o w).2.1=[]) (hv:dvE t=0):
    0≤(bW t o w).1∧(bW t o w).1 < t.nd.length∧((nth t.nd (bW t o w).1.toNat).lf=false→(ans o (cat [w,(nth t.nd (bW t o w).1.toNat).sf])).isSome=true∧ ¬lxH (nth t.nd (bW t o w).1.toNat).ou (((ans o (cat [w,(nth t.nd (bW t o w).1.toNat).sf])).getD []).drop w.length)):=by
  unfold bW at he hq ⊢
  rw [if_neg (by omega)] at he hq ⊢
  by_cases h:dX w o.i≠0
  · rw [if_pos h] at he; exact (h he).elim
  · rw [if_neg h] at he hq ⊢
    exact xR hv _ _ (rk0 hv) he hq
theorem vL {l : List (List Int)} (h : (mxW l).length = 0) : l = [] := by
  cases l with
  |nil=>rfl
  | cons a m =>
    exfalso
    -- a longest word is maximal
    have: ∃ w,w∈(a::m)∧ ∀ u∈(a::m),u.length≤w.length:=by
      have key: ∀ (l:List (List Int)),l≠[]→ ∃ w,w∈l∧ ∀ u∈l,u.length≤w.length:=by
        intro l
        induction l with
        |nil=>intro h; exact (h rfl).elim
        | cons b r ih =>
          intro _
          by_cases hr:r=[]
          · subst hr; exact ⟨b,by simp,by simp⟩
          · obtain ⟨w,h1,h2⟩:=ih hr
            by_cases hb:w.length≤b.length
            · refine ⟨b,by simp,fun u hu=>?_⟩
              rcases List.mem_cons.1 hu with e|e
              · rw [e]; exact Nat.le_refl _
              · have:=h2 u e; omega
            · refine ⟨w,List.mem_cons_of_mem _ h1,fun u hu=>?_⟩
              rcases List.mem_cons.1 hu with e|e
              · rw [e]; omega
              · exact h2 u e
      exact key _ (by simp)
    obtain ⟨w,h1,h2⟩:=this
    have hm:w∈mxW (a::m):=aDL.2 ⟨h1,fun u hu hh=>aGr hh (h2 u hu)⟩
    rw [List.length_eq_zero_iff.1 h] at hm
    cases hm
theorem aKJ {l:Ts} {o:Ob} (h1: ¬tsE l o≠0) (h2: ¬sfE l o≠0) (h3: ¬0 < (mxW (qra l o)).length) {k:Nat} (hk:k < (exs l).length):
    (bW l.t o (nth (exs l) k)).2.2=0∧0≤(bW l.t o (nth (exs l) k)).1∧(bW l.t o (nth (exs l) k)).1 < l.t.nd.length∧((nth l.t.nd (bW l.t o (nth (exs l) k)).1.toNat).lf=false→
      (ans o (cat [nth (exs l) k,(nth l.t.nd (bW l.t o (nth (exs l) k)).1.toNat).sf])).isSome=true∧ ¬lxH (nth l.t.nd (bW l.t o (nth (exs l) k)).1.toNat).ou (((ans o (cat [nth (exs l) k,(nth l.t.nd (bW l.t o (nth (exs l) k)).1.toNat).sf])).getD []).drop (nth (exs l) k).length)):=by
  have hv:=(aBJ (aTH (Decidable.not_not.1 h1)).1).2.2.1
  have he:(bW l.t o (nth (exs l) k)).2.2=0:=cE.1 (Decidable.not_not.1 h2) k (Nat.zero_le _) (by omega)
  have hq:=vL (l:=qra l o) (by omega)
  have hq2:(bW l.t o (nth (exs l) k)).2.1=[]:=by
    by_cases e:(bW l.t o (nth (exs l) k)).2.1=[]
    · exact e
    · exfalso
      have hp:0 < (bW l.t o (nth (exs l) k)).2.1.length:=List.length_pos_iff.2 e
      have:(bW l.t o (nth (exs l) k)).2.1∈qra l o:=List.mem_flatMap.2 ⟨_,bF hk,by unfold qr1; rw [if_pos hp]; simp⟩
      rw [hq] at this; cases this
  exact ⟨he,aHR he hq2 hv⟩
end Go.Proofs.YtilfohjlglefjaaGreat
namespace Go.Proofs.YtilfohjlglefjaaGreat
open Go
def tbl {α:Type} (f:Nat→α) (n:Nat):List α:=(List.range n).map f
theorem lC {α:Type} (f:Nat→α) (n:Nat):(tbl f n).length=n:=by simp [tbl]
theorem pY {α:Type} (f:Nat→α) (n:Nat):tbl f (n+1)=tbl f n++[f n]:=by simp [tbl,List.range_succ]
theorem aAv {α:Type} [Inhabited α] {f:Nat→α} {n k:Nat} (h:k < n):nth (tbl f n) k=f k:=by
  unfold tbl
  rw [aEi (by simpa using h)]
  congr 1
  rw [← aM (by simpa using h)]; simp
def plI (L:List (List Int)) (w:List Int):Int:=fi (fun j=>decide (nth L j=w)) 0 L.length
def hyA (l:Ts) (o:Ob) (k:Nat):List Int:=(nth l.t.nd (bW l.t o (nth (exs l) k)).1.toNat).ac
def hyN (l:Ts) (o:Ob) (k:Nat):Int:=plI (lvs l.t) (hyA l o k)
def exI (l:Ts) (m:Nat):List Int:=(nth (exs l) m).take ((nth (exs l) m).length - 1)
def exL (l:Ts) (m:Nat):List Int:=(nth (exs l) m).drop ((nth (exs l) m).length - 1)
def hyO (l:Ts) (o:Ob) (m:Nat):Int:=nth (bho o (exI l m) (exL l m)) 0
def aLw (f:Nat→Int) (i k:Nat):List Int:=tbl (fun a=>f (k*i+a)) i
def hyM (l:Ts) (o:Ob):M:=⟨l.i,0,tbl (aLw (hyN l o) l.i.toNat) (lvs l.t).length,tbl (aLw (hyO l o) l.i.toNat) (lvs l.t).length⟩
def hyH (l:Ts) (o:Ob):Hy:=⟨hyM l o,lvs l.t⟩
def zM:M:=⟨0,0,[],[]⟩
section
variable {l:Ts} {o:Ob}
end
theorem Hy.eq_iff {a b:Hy}:a=b↔a.m.i=b.m.i∧a.m.s=b.m.s∧a.m.nx=b.m.nx∧a.m.ot=b.m.ot∧a.acc=b.acc:=by
  rcases a with ⟨⟨a1,a2,a3,a4⟩,a5⟩; rcases b with ⟨⟨b1,b2,b3,b4⟩,b5⟩; simp [and_assoc]
theorem M.eq_iff {a b:M}:a=b↔a.i=b.i∧a.s=b.s∧a.nx=b.nx∧a.ot=b.ot:=by
  rcases a with ⟨a1,a2,a3,a4⟩; rcases b with ⟨b1,b2,b3,b4⟩; simp
instance:DecidableEq M:=fun _ _=>decidable_of_iff _ M.eq_iff.symm
instance:DecidableEq Hy:=fun _ _=>decidable_of_iff _ Hy.eq_iff.symm
def prS (s:Spl) (i:Int):Int:=if dX s.p i≠0 then dX s.p i else if s.a < 0∨i≤s.a then 2 else if s.x.length=0 then 19 else dX s.x i
def rfW (s:Spl):List Int:=cat [s.p,[s.a]]
def rfN (l:Ts) (o:Ob) (s:Spl):Nd:=nth l.t.nd (bW l.t o (rfW s)).1.toNat
def msW (o:Ob) (l:List (List Int)):List (List Int):=l.filter fun w=> !(ans o w).isSome
def rfB (l:Ts) (o:Ob) (s:Spl):List (List Int):=[cat [(rfN l o s).ac,s.x],cat [rfW s,s.x]]
def rfG (l:Ts) (o:Ob) (s:Spl):Int:=spE l.t (bW l.t o (rfW s)).1 s.x (bho o (rfN l o s).ac s.x) (rfW s) (bho o (rfW s) s.x)
def rfT (l:Ts) (o:Ob) (s:Spl):Ts:=⟨l.i,spT l.t (bW l.t o (rfW s)).1 s.x (bho o (rfN l o s).ac s.x) (rfW s) (bho o (rfW s) s.x)⟩
def rfR (l:Ts) (o:Ob) (s:Spl):Ts×List (List Int)×Int:=
  if tsE l o≠0 then (l,[],tsE l o) else if prS s l.i≠0 then (l,[],prS s l.i) else if (bW l.t o (rfW s)).2.2≠0 then (l,[],(bW l.t o (rfW s)).2.2) else if 0 < (bW l.t o (rfW s)).2.1.length then (l,[(bW l.t o (rfW s)).2.1],0) else if (rfN l o s).lf=false then (l,[],10) else if 1024 < (rfN l o s).ac.length+s.x.length∨1024 < (rfW s).length+s.x.length then (l,[],3) else if 0 < (msW o (rfB l o s)).length then (l,mxW (msW o (rfB l o s)),0) else if 128≤(acL l.t.nd).length then (l,[],11) else if rfG l o s≠0 then (l,[],rfG l o s) else (rfT l o s,[],0)
theorem aSS {l:Ts} {o:Ob} {s:Spl} (h1:tsE l o≠0):rfR l o s=(l,[],tsE l o):=by
  unfold rfR; rw [if_pos h1]
theorem aSo {l:Ts} {o:Ob} {s:Spl} (h1: ¬(tsE l o≠0)) (h2:prS s l.i≠0):rfR l o s=(l,[],prS s l.i):=by
  unfold rfR; rw [if_neg h1,if_pos h2]
theorem aRL {l:Ts} {o:Ob} {s:Spl} (h1: ¬(tsE l o≠0)) (h2: ¬(prS s l.i≠0)) (h3:(bW l.t o (rfW s)).2.2≠0):rfR l o s=(l,[],(bW l.t o (rfW s)).2.2):=by
  unfold rfR; rw [if_neg h1,if_neg h2,if_pos h3]
theorem aRA {l:Ts} {o:Ob} {s:Spl} (h1: ¬(tsE l o≠0)) (h2: ¬(prS s l.i≠0)) (h3: ¬((bW l.t o (rfW s)).2.2≠0)) (h4:0 < (bW l.t o (rfW s)).2.1.length):rfR l o s=(l,[(bW l.t o (rfW s)).2.1],0):=by
  unfold rfR; rw [if_neg h1,if_neg h2,if_neg h3,if_pos h4]
theorem aTv {l:Ts} {o:Ob} {s:Spl} (h1: ¬(tsE l o≠0)) (h2: ¬(prS s l.i≠0)) (h3: ¬((bW l.t o (rfW s)).2.2≠0)) (h4: ¬(0 < (bW l.t o (rfW s)).2.1.length)) (h5:(rfN l o s).lf=false):rfR l o s=(l,[],10):=by
  unfold rfR; rw [if_neg h1,if_neg h2,if_neg h3,if_neg h4,if_pos h5]
theorem aSd {l:Ts} {o:Ob} {s:Spl} (h1: ¬(tsE l o≠0)) (h2: ¬(prS s l.i≠0)) (h3: ¬((bW l.t o (rfW s)).2.2≠0)) (h4: ¬(0 < (bW l.t o (rfW s)).2.1.length)) (h5: ¬((rfN l o s).lf=false)) (h6:1024 < (rfN l o s).ac.length+s.x.length∨1024 < (rfW s).length+s.x.length):rfR l o s=(l,[],3):=by
  unfold rfR; rw [if_neg h1,if_neg h2,if_neg h3,if_neg h4,if_neg h5,if_pos h6]
theorem aTK {l:Ts} {o:Ob} {s:Spl} (h1: ¬(tsE l o≠0)) (h2: ¬(prS s l.i≠0)) (h3: ¬((bW l.t o (rfW s)).2.2≠0)) (h4: ¬(0 < (bW l.t o (rfW s)).2.1.length)) (h5: ¬((rfN l o s).lf=false)) (h6: ¬(1024 < (rfN l o s).ac.length+s.x.length∨1024 < (rfW s).length+s.x.length)) (h7:0 < (msW o (rfB l o s)).length):rfR l o s=(l,mxW (msW o (rfB l o s)),0):=by
  unfold rfR; rw [if_neg h1,if_neg h2,if_neg h3,if_neg h4,if_neg h5,if_neg h6,if_pos h7]
theorem aRm {l:Ts} {o:Ob} {s:Spl} (h1: ¬(tsE l o≠0)) (h2: ¬(prS s l.i≠0)) (h3: ¬((bW l.t o (rfW s)).2.2≠0)) (h4: ¬(0 < (bW l.t o (rfW s)).2.1.length)) (h5: ¬((rfN l o s).lf=false)) (h6: ¬(1024 < (rfN l o s).ac.length+s.x.length∨1024 < (rfW s).length+s.x.length)) (h7: ¬(0 < (msW o (rfB l o s)).length)) (h8:128≤(acL l.t.nd).length):rfR l o s=(l,[],11):=by
  unfold rfR; rw [if_neg h1,if_neg h2,if_neg h3,if_neg h4,if_neg h5,if_neg h6,if_neg h7,if_pos h8]
theorem aRY {l:Ts} {o:Ob} {s:Spl} (h1: ¬(tsE l o≠0)) (h2: ¬(prS s l.i≠0)) (h3: ¬((bW l.t o (rfW s)).2.2≠0)) (h4: ¬(0 < (bW l.t o (rfW s)).2.1.length)) (h5: ¬((rfN l o s).lf=false)) (h6: ¬(1024 < (rfN l o s).ac.length+s.x.length∨1024 < (rfW s).length+s.x.length)) (h7: ¬(0 < (msW o (rfB l o s)).length)) (h8: ¬(128≤(acL l.t.nd).length)) (h9:rfG l o s≠0):rfR l o s=(l,[],rfG l o s):=by
  unfold rfR; rw [if_neg h1,if_neg h2,if_neg h3,if_neg h4,if_neg h5,if_neg h6,if_neg h7,if_neg h8,if_pos h9]
theorem aL7 {l:Ts} {o:Ob} {s:Spl} (h1: ¬(tsE l o≠0)) (h2: ¬(prS s l.i≠0)) (h3: ¬((bW l.t o (rfW s)).2.2≠0)) (h4: ¬(0 < (bW l.t o (rfW s)).2.1.length)) (h5: ¬((rfN l o s).lf=false)) (h6: ¬(1024 < (rfN l o s).ac.length+s.x.length∨1024 < (rfW s).length+s.x.length)) (h7: ¬(0 < (msW o (rfB l o s)).length)) (h8: ¬(128≤(acL l.t.nd).length)) (h9: ¬(rfG l o s≠0)):rfR l o s=(rfT l o s,[],0):=by
  unfold rfR; rw [if_neg h1,if_neg h2,if_neg h3,if_neg h4,if_neg h5,if_neg h6,if_neg h7,if_neg h8,if_neg h9]
theorem aNz {s:Spl} {i:Int} (h: ¬prS s i≠0):dX s.p i=0∧0≤s.a∧s.a < i∧0 < s.x.length∧dX s.x i=0:=by
  have h:=Decidable.not_not.1 h
  unfold prS at h
  split at h
  · rename_i q; exact (q h).elim
  · rename_i q
    split at h
    · omega
    · split at h
      · omega
      · exact ⟨Decidable.not_not.1 q,by omega,by omega,by omega,h⟩
theorem aJH {o:Ob} {a b:List Int}:msW o [a,b]=(if (ans o a).isSome=true then [] else [a])++(if (ans o b).isSome=true then [] else [b]):=by
  unfold msW
  cases ha:(ans o a).isSome <;> cases hb:(ans o b).isSome <;> simp only [List.filter,ha,hb,Bool.not_false,Bool.not_true,if_true,if_false,Bool.false_eq_true] <;> rfl
end Go.Proofs.YtilfohjlglefjaaGreat
namespace Go.Proofs.YtilfohjlglefjaaGreat
open Go
abbrev Sg:=Int×Int
structure TM where
  i:Int
  tm:Int
  s:Int
  nx:List (List Int)
  ot:List (List Int)
  st:List (List Sg)
theorem TM.eq_iff {a b:TM}:a=b↔a.i=b.i∧a.tm=b.tm∧a.s=b.s∧a.nx=b.nx∧a.ot=b.ot∧a.st=b.st:=by
  cases a; cases b; simp
instance:DecidableEq TM:=fun _ _=>decidable_of_iff _ TM.eq_iff.symm
abbrev cSg (p:Sg):List V:=[iV p.1,iV p.2]
abbrev cSr (l:List Sg):List V:=[.sl (l.map cSg)]
@[simp] theorem aLk {l:List Sg}:cP (l.map cSg)=true:=cS _ _ fun a=>by simp [cSg]
@[simp] theorem aK4 {l:List (List Sg)}:cP (l.map cSr)=true:=cS _ _ fun a=>by simp [cSr]
abbrev tmC (t:TM):List V:=[iV t.i,iV t.tm,iV t.s,aB t.nx,aB t.ot,.sl (t.st.map cSr)]
abbrev zTM:TM:=⟨0,0,0,[],[],[]⟩
@[simp] theorem aEQ {l:List Bool}:eZ (l.map cB)=true:=fS _ _ fun a=>by simp [cB]
@[simp] theorem aN1 {l:List Bool}:cP (l.map cB)=true:=cS _ _ fun a=>by simp [cB]
attribute [simp] cB
@[simp] theorem aLe {l : List Bool} {i : Nat} {b : Bool} : eZ ((l.map cB).set i [V.bool b]) = true := by
  have e:(l.map cB).set i [V.bool b]=(l.set i b).map cB:=by rw [List.map_set]; rfl
  rw [e]; exact aEQ
def idL (l:List Int) (n:Int):Int:=fi (fun j=>decide (nth l j=n)) 0 l.length
theorem aEE {p:Nat→Bool}: ∀ {n k:Nat},0≤fi p k n→ ∃ j:Nat,fi p k n=j∧k≤j∧j < k+n∧p j=true∧ ∀ i,k≤i→i < j→p i=false
  |0,k,h=>by simp [fi] at h
  | n + 1, k, h => by
    unfold fi at h ⊢
    split
    · rename_i hp; exact ⟨k,rfl,Nat.le_refl _,by omega,hp,fun i h1 h2=>by omega⟩
    · rename_i hp
      rw [if_neg hp] at h
      obtain ⟨j,h1,h2,h3,h4,h5⟩:=aEE h
      refine ⟨j,h1,by omega,by omega,h4,fun i h6 h7=>?_⟩
      by_cases e:i=k
      · subst e; simpa using hp
      · exact h5 i (by omega) h7
theorem aEK {p:Nat→Bool}: ∀ {n k j:Nat},k≤j→j < k+n→p j=true→0≤fi p k n
  |0,k,j,h1,h2,_=>by omega
  | n + 1, k, j, h1, h2, h3 => by
    unfold fi
    split
    · omega
    · rename_i hp
      by_cases e:j=k
      · subst e; exact (hp h3).elim
      · exact aEK (show k+1≤j by omega) (by omega) h3
theorem aNq {l:List Int} {n:Int} (h:n∈l):0≤idL l n∧idL l n < l.length∧nth l (idL l n).toNat=n:=by
  obtain ⟨j,hj,e⟩:=dP h
  have h0:0≤idL l n:=aEK (j:=j) (Nat.zero_le _) (by omega) (decide_eq_true e)
  obtain ⟨i,h1,_,h3,h4,_⟩:=aEE h0
  have h1':idL l n=i:=h1
  rw [h1']
  exact ⟨by omega,by omega,by simpa using h4⟩
theorem aEk {l:List Int} (hn:l.Nodup) {k:Nat} (hk:k < l.length):idL l (nth l k)=k:=by
  obtain ⟨h1,h2,h3⟩:=aNq (bF hk)
  have key: ∀ i:Nat,i < l.length→nth l i=nth l k→i=k:=fun i hi e=>by
    rw [← aM hi,← aM hk] at e
    rcases Nat.lt_trichotomy i k with q|q|q
    · exact absurd e (List.pairwise_iff_getElem.1 hn i k hi hk q)
    · exact q
    · exact absurd e.symm (List.pairwise_iff_getElem.1 hn k i hk hi q)
  have:=key _ (by omega) h3
  omega
structure RcM (m:M):Prop where
  rng: ∀ k,k < (rch m).length→0≤nth (rch m) k∧nth (rch m) k < m.nx.length
  nd:(rch m).Nodup
  first:nth (rch m) 0=m.s
  pos:0 < (rch m).length
  len:(rch m).length≤m.nx.length
  clo: ∀ k,k < (rch m).length→ ∀ a∈nth m.nx (nth (rch m) k).toNat,a∈rch m
def jE {α:Type} (f:Nat→α) (z:α) (n j:Nat):List α:=(List.range n).map fun a=>if a < j then f a else z
section
variable {α:Type} {f:Nat→α} {z:α} {n j:Nat}
theorem cC:(jE f z n j).length=n:=by simp [jE]
theorem jS:List.replicate n z=jE f z n 0:=by
  refine List.ext_getElem (by simp [jE]) fun k h1 h2=>?_
  simp [jE]
theorem lR (hj:j < n):(jE f z n j).set j (f j)=jE f z n (j+1):=by
  refine List.ext_getElem (by simp [jE]) fun k h1 h2=>?_
  rw [List.getElem_set]
  simp only [jE,List.getElem_map,List.getElem_range]
  by_cases e:j=k
  · subst e; rw [if_pos rfl,if_pos (by omega)]
  · rw [if_neg e]
    by_cases c:k < j
    · rw [if_pos c,if_pos (by omega)]
    · rw [if_neg c,if_neg (by omega)]
theorem aB1 (hj:n≤j):jE f z n j=tbl f n:=by
  unfold jE tbl
  refine List.map_congr_left fun x hx=>?_
  rw [if_pos (by have:=List.mem_range.1 hx; omega)]
end
theorem RcM.inj {m:M} (h:RcM m) {i j:Nat} (hi:i < (rch m).length) (hj:j < (rch m).length) (e:nth (rch m) i=nth (rch m) j):i=j:=by
  have h1:=aEk h.nd hi
  have h2:=aEk h.nd hj
  rw [e] at h1
  omega
def sgK (tm:Int):Int:=1+tm*1001
section
variable {m:M} {inp tm:Int} {y:Sg} {s t i x:Nat}
end
section
variable {m:M} {inp tm:Int}
end
section
variable {m:M} {inp tm:Int} {s i k:Nat}
end
section
variable {m:M} {inp tm:Int}
end
end Go.Proofs.YtilfohjlglefjaaGreat
namespace Go.Proofs.YtilfohjlglefjaaGreat
open Go
abbrev Cf:=Int×List Bool
abbrev cCf (c:Cf):List V:=[iV c.1,.sl (c.2.map cB)]
@[simp] theorem aNe {l:List Cf}:eZ (l.map cCf)=true:=fS _ _ fun a=>by simp [cCf]
@[simp] theorem aLc {l:List Cf}:cP (l.map cCf)=true:=cS _ _ fun a=>by simp [cCf]
def tSt (t:TM) (s i:Nat):Sg:=nth (nth t.st s) i
def mA (t:TM) (s i:Nat):Int:=
  if nth (nth t.nx s) i < 0∨t.nx.length≤nth (nth t.nx s) i∨nth (nth t.ot s) i < 0∨1048576 < nth (nth t.ot s) i then 2
  else if (tSt t s i).1 < -1∨t.tm≤(tSt t s i).1∨(tSt t s i).2 < 0∨1000 < (tSt t s i).2 then 2
  else if (tSt t s i).1= -1∧(tSt t s i).2≠0 then 1 else 0
def rR (t:TM) (s:Nat):Int:=
  if ((nth t.nx s).length:Int)≠t.i+t.tm∨((nth t.ot s).length:Int)≠t.i+t.tm∨((nth t.st s).length:Int)≠t.i+t.tm then 1 else fe (mA t s) 0 (t.i+t.tm).toNat
def cR (t:TM):Int:=
  if t.i < 1∨64 < t.i∨t.tm < 0∨4 < t.tm then 2 else if 64 < t.i+t.tm then 11 else if t.nx.length=0 then 19 else if 128 < t.nx.length then 11
  else if t.s < 0∨t.nx.length≤t.s then 2 else if t.ot.length≠t.nx.length∨t.st.length≠t.nx.length then 1 else fe (rR t) 0 t.nx.length
def TOK (t : TM) : Prop := 1 ≤ t.i ∧ t.i ≤ 64 ∧ 0 ≤ t.tm ∧ t.tm ≤ 4 ∧ t.i + t.tm ≤ 64 ∧ 0 < t.nx.length ∧ t.nx.length ≤ 128 ∧ 0 ≤ t.s ∧ t.s < t.nx.length ∧ t.ot.length = t.nx.length ∧ t.st.length = t.nx.length ∧
  ∀ s, s < t.nx.length → ((nth t.nx s).length : Int) = t.i + t.tm ∧ ((nth t.ot s).length : Int) = t.i + t.tm ∧ ((nth t.st s).length : Int) = t.i + t.tm ∧ ∀ i : Nat, i < t.i + t.tm →
    0≤nth (nth t.nx s) i∧nth (nth t.nx s) i < t.nx.length∧0≤nth (nth t.ot s) i∧nth (nth t.ot s) i≤1048576∧ -1≤(tSt t s i).1∧(tSt t s i).1 < t.tm∧0≤(tSt t s i).2∧(tSt t s i).2≤1000∧((tSt t s i).1= -1→(tSt t s i).2=0)
theorem uB {t:TM} (h:cR t=0):TOK t:=by
  unfold cR at h
  split at h; · cases h
  rename_i h1
  split at h; · cases h
  rename_i h2
  split at h; · cases h
  rename_i h3
  split at h; · cases h
  rename_i h4
  split at h; · cases h
  rename_i h5
  split at h; · cases h
  rename_i h6
  refine ⟨by omega,by omega,by omega,by omega,by omega,by omega,by omega,by omega,by omega,by omega,by omega,fun s hs=>?_⟩
  have hr:=cE.1 h s (Nat.zero_le _) (by omega)
  unfold rR at hr
  split at hr; · cases hr
  rename_i h7
  refine ⟨by omega,by omega,by omega,fun i hi=>?_⟩
  have hx:=cE.1 hr i (Nat.zero_le _) (by omega)
  unfold mA at hx
  split at hx; · cases hx
  rename_i h8
  split at hx; · cases hx
  rename_i h9
  split at hx; · cases hx
  rename_i h10
  refine ⟨by omega,by omega,by omega,by omega,by omega,by omega,by omega,by omega,fun e=>?_⟩
  exact Decidable.byContradiction fun q=>h10 ⟨e,q⟩
theorem aGN {l:List Bool} {k:Nat} (h:l.length≤k):jE (nth l) false l.length k=l:=by
  rw [aB1 h]
  refine jC (lC _ _) fun j hj=>?_
  rw [lC] at hj
  exact aAv hj
def psB (t:TM) (c:Cf) (i:Nat):Bool:=decide ((i:Int) < t.i)||nth c.2 ((i:Int) - t.i).toNat
def af0 (t:TM) (c:Cf) (i:Nat):List Bool:=if t.i≤i then c.2.set ((i:Int) - t.i).toNat false else c.2
def afN (t:TM) (c:Cf) (i:Nat):Prop:=(tSt t c.1.toNat i).1 < 0∨(tSt t c.1.toNat i).2=0∧nth (af0 t c i) (tSt t c.1.toNat i).1.toNat=false
instance (t:TM) (c:Cf) (i:Nat):Decidable (afN t c i):=inferInstanceAs (Decidable (_∨_))
def afR (t:TM) (c:Cf) (i:Nat):List Bool:=if afN t c i then af0 t c i else (af0 t c i).set (tSt t c.1.toNat i).1.toNat (decide (0 < (tSt t c.1.toNat i).2))
def afC (t:TM) (c:Cf) (i:Nat):Int:=if afN t c i then 0 else 1+(tSt t c.1.toNat i).1*1001+(tSt t c.1.toNat i).2
def afT (t:TM) (c:Cf) (i:Nat):Cf:=(nth (nth t.nx c.1.toNat) i,afR t c i)
theorem aEd {t:TM} {c:Cf} {i:Nat} (h:(decide ((nth (nth t.st c.1.toNat) i).1 < 0)||(decide ((nth (nth t.st c.1.toNat) i).2=0)&& !(nth (af0 t c i) (nth (nth t.st c.1.toNat) i).1.toNat)))=true):afN t c i∧afR t c i=af0 t c i∧afC t c i=0:=by
  have e:afN t c i:=by
    simp only [Bool.or_eq_true,Bool.and_eq_true,decide_eq_true_eq,Bool.not_eq_true'] at h
    exact h
  exact ⟨e,if_pos e,if_pos e⟩
theorem aHk {t:TM} {c:Cf} {i:Nat} (h:(decide ((nth (nth t.st c.1.toNat) i).1 < 0)||(decide ((nth (nth t.st c.1.toNat) i).2=0)&& !(nth (af0 t c i) (nth (nth t.st c.1.toNat) i).1.toNat)))=false):0≤(nth (nth t.st c.1.toNat) i).1∧afR t c i=(af0 t c i).set (nth (nth t.st c.1.toNat) i).1.toNat (decide (0 < (nth (nth t.st c.1.toNat) i).2))∧afC t c i=1+(nth (nth t.st c.1.toNat) i).1*1001+(nth (nth t.st c.1.toNat) i).2:=by
  have e: ¬afN t c i:=by
    intro q
    have:(decide ((nth (nth t.st c.1.toNat) i).1 < 0)||(decide ((nth (nth t.st c.1.toNat) i).2=0)&& !(nth (af0 t c i) (nth (nth t.st c.1.toNat) i).1.toNat)))=true:=by
      simp only [Bool.or_eq_true,Bool.and_eq_true,decide_eq_true_eq,Bool.not_eq_true']
      exact q
    rw [this] at h; cases h
  refine ⟨Int.not_lt.1 fun q=>e (.inl q),if_neg e,if_neg e⟩
theorem cD {t:TM} {c:Cf} {i:Nat}:(af0 t c i).length=c.2.length:=by unfold af0; split <;> simp
theorem aI8 {t:TM} {c:Cf} {i:Nat}:(afR t c i).length=c.2.length:=by unfold afR; split <;> simp [cD]
def mU (t:TM) (c:Cf):Prop:=0≤c.1∧c.1 < t.nx.length∧c.2.length=t.tm.toNat
theorem aC9 {t:TM} (ht:TOK t) {c:Cf} (hc:mU t c) {i:Nat} (hi:(i:Int) < t.i+t.tm):mU t (afT t c i):=by
  obtain ⟨_,_,_,_,_,_,_,_,_,_,_,h⟩:=ht
  have:=(h c.1.toNat (by have:=hc.1; have:=hc.2.1; omega)).2.2.2 i hi
  exact ⟨this.1,this.2.1,by rw [show (afT t c i).2=afR t c i from rfl,aI8]; exact hc.2.2⟩
def aAo (l:List Cf) (c:Cf) (k:Nat):Nat→Nat
  |0=>l.length
  |n+1=>if nth l k=c then k else aAo l c (k+1) n
def plc (l:List Cf) (c:Cf):Nat:=aAo l c 0 l.length
theorem sE {l:List Cf} {c:Cf}: ∀ (n k:Nat),k+n=l.length→(aAo l c k n < l.length∧nth l (aAo l c k n)=c∧ ∀ j,k≤j→j < aAo l c k n→nth l j≠c)∨(aAo l c k n=l.length∧ ∀ j,k≤j→j < l.length→nth l j≠c)
  |0,k,h=>.inr ⟨rfl,fun j h1 h2=>by omega⟩
  | n + 1, k, h => by
    rw [aAo]
    split
    · rename_i e; exact .inl ⟨by omega,e,fun j h1 h2=>by omega⟩
    · rename_i e
      rcases sE (l:=l) (c:=c) n (k+1) (by omega) with ⟨h1,h2,h3⟩|⟨h1,h2⟩
      · exact .inl ⟨h1,h2,fun j h4 h5=>by
          by_cases q:j=k
          · subst q; exact e
          · exact h3 j (by omega) h5⟩
      · exact .inr ⟨h1,fun j h4 h5=>by
          by_cases q:j=k
          · subst q; exact e
          · exact h2 j (by omega) h5⟩
theorem pF (l:List Cf) (c:Cf):(plc l c < l.length∧nth l (plc l c)=c)∨(plc l c=l.length∧c∉l):=by
  rcases sE (l:=l) (c:=c) l.length 0 (by omega) with ⟨h1,h2,_⟩|⟨h1,h2⟩
  · exact .inl ⟨h1,h2⟩
  · refine .inr ⟨h1,fun h=>?_⟩
    obtain ⟨j,hj,e⟩:=dP h
    exact h2 j (Nat.zero_le _) hj e
theorem aF7 (l:List Cf) (c:Cf):plc l c≤l.length:=by rcases pF l c with h|h <;> omega
structure US where
  l:List Cf
  a:List Int
  b:List Int
def unO (t:TM) (c:Cf) (i:Nat):Int:=1+nth (nth t.ot c.1.toNat) i*sgK t.tm+afC t c i
def cQ (l:List Cf) (c:Cf):List Cf:=if plc l c=l.length then l++[c] else l
def dN (t : TM) (k : Nat) : Nat → Nat → US → Int × US
  |0,_,S=>(0,S)
  | n + 1, i, S =>
    if psB t (nth S.l k) i=false then dN t k n (i+1) ⟨S.l,S.a++[(k:Int)],S.b++[0]⟩
    else if 1048576 < unO t (nth S.l k) i then (2,S)
    else if plc S.l (afT t (nth S.l k) i)=S.l.length∧plc S.l (afT t (nth S.l k) i)=128 then (11,S)
    else dN t k n (i+1) ⟨cQ S.l (afT t (nth S.l k) i),S.a++[(plc S.l (afT t (nth S.l k) i):Int)],S.b++[unO t (nth S.l k) i]⟩
structure UM where
  l:List Cf
  nx:List (List Int)
  ot:List (List Int)
def gQ (t:TM):Nat→Nat→UM→Int×UM
  |0,_,S=>(0,S)
  | n + 1, k, S => if k < S.l.length then
      (if (dN t k (t.i+t.tm).toNat 0 ⟨S.l,[],[]⟩).1≠0 then ((dN t k (t.i+t.tm).toNat 0 ⟨S.l,[],[]⟩).1,S)
      else gQ t n (k+1) ⟨(dN t k (t.i+t.tm).toNat 0 ⟨S.l,[],[]⟩).2.l,S.nx++[(dN t k (t.i+t.tm).toNat 0 ⟨S.l,[],[]⟩).2.a],S.ot++[(dN t k (t.i+t.tm).toNat 0 ⟨S.l,[],[]⟩).2.b]⟩) else (0,S)
def ini (t:TM):UM:=⟨[(t.s,List.replicate t.tm.toNat false)],[],[]⟩
def unX (t:TM):Int×UM:=gQ t 129 0 (ini t)
def unE (t:TM):Int:=if cR t≠0 then cR t else (unX t).1
def unM (t:TM):M:=if unE t=0 then ⟨t.i+t.tm,0,(unX t).2.nx,(unX t).2.ot⟩ else zM
section
variable {t:TM} {k n i:Nat} {S:US}
theorem aFp (h:n≤i):dN t k (n - i) i S=(0,S):=by rw [show n - i=0 by omega,dN]
theorem aGq (h:i < n) (h1:psB t (nth S.l k) i=false):dN t k (n - i) i S=dN t k (n - (i+1)) (i+1) ⟨S.l,S.a++[(k:Int)],S.b++[0]⟩:=by rw [show n - i=(n - (i+1))+1 by omega,dN,if_pos h1]
theorem aKR (h:i < n) (h1: ¬psB t (nth S.l k) i=false) (h2:1048576 < unO t (nth S.l k) i):dN t k (n - i) i S=(2,S):=by rw [show n - i=(n - (i+1))+1 by omega,dN,if_neg h1,if_pos h2]
theorem aIO (h:i < n) (h1: ¬psB t (nth S.l k) i=false) (h2: ¬1048576 < unO t (nth S.l k) i) (h3:plc S.l (afT t (nth S.l k) i)=S.l.length∧plc S.l (afT t (nth S.l k) i)=128):dN t k (n - i) i S=(11,S):=by rw [show n - i=(n - (i+1))+1 by omega,dN,if_neg h1,if_neg h2,if_pos h3]
theorem aGV (h:i < n) (h1: ¬psB t (nth S.l k) i=false) (h2: ¬1048576 < unO t (nth S.l k) i) (h3: ¬(plc S.l (afT t (nth S.l k) i)=S.l.length∧plc S.l (afT t (nth S.l k) i)=128)):
    dN t k (n - i) i S=dN t k (n - (i+1)) (i+1) ⟨cQ S.l (afT t (nth S.l k) i),S.a++[(plc S.l (afT t (nth S.l k) i):Int)],S.b++[unO t (nth S.l k) i]⟩:=by rw [show n - i=(n - (i+1))+1 by omega,dN,if_neg h1,if_neg h2,if_neg h3]
variable {U:UM}
theorem aFJ (h:U.l.length≤k):gQ t n k U=(0,U):=by
  cases n with
  |zero=>rfl
  |succ n=>rw [gQ,if_neg (by omega)]
theorem vM {e:Int} {S:US} (h:k < U.l.length) (hn:k < n) (h1:dN t k (t.i+t.tm).toNat 0 ⟨U.l,[],[]⟩=(e,S)) (h2:e≠0):gQ t (n - k) k U=(e,U):=by
  rw [show n - k=(n - (k+1))+1 by omega,gQ,if_pos h,h1,if_pos h2]
theorem aFS {S:US} (h:k < U.l.length) (hn:k < n) (h1:dN t k (t.i+t.tm).toNat 0 ⟨U.l,[],[]⟩=(0,S)):gQ t (n - k) k U=gQ t (n - (k+1)) (k+1) ⟨S.l,U.nx++[S.a],U.ot++[S.b]⟩:=by
  rw [show n - k=(n - (k+1))+1 by omega,gQ,if_pos h,h1,if_neg (by simp)]
end
structure UOK (t:TM) (l:List Cf):Prop where
  all: ∀ c∈l,mU t c
  len:l.length≤128
  pos:0 < l.length
theorem UOK.at {t:TM} {l:List Cf} (h:UOK t l) {k:Nat} (hk:k < l.length):mU t (nth l k):=h.all _ (bF hk)
theorem UOK.add {t:TM} {l:List Cf} (h:UOK t l) {c:Cf} (hc:mU t c) (h2: ¬(plc l c=l.length∧plc l c=128)):UOK t (cQ l c):=by
  unfold cQ
  split
  · rename_i e
    refine ⟨fun d hd=>?_,by rw [List.length_append,List.length_singleton]; have:=h.len; omega,by simp⟩
    rcases List.mem_append.1 hd with hd|hd
    · exact h.all d hd
    · rw [List.mem_singleton.1 hd]; exact hc
  · exact h
theorem oX {t:TM} (h:TOK t):UOK t (ini t).l:=⟨fun c hc=>by
  rw [List.mem_singleton.1 hc]
  obtain ⟨_,_,_,_,_,_,_,h8,h9,_⟩:=h
  exact ⟨h8,h9,List.length_replicate ..⟩,by simp [ini],by simp [ini]⟩
theorem yT {l:List Cf} {c:Cf} {k:Nat} (hk:k < l.length):nth (cQ l c) k=nth l k∧l.length≤(cQ l c).length:=by
  unfold cQ
  split
  · exact ⟨bD hk,by simp⟩
  · exact ⟨rfl,Nat.le_refl _⟩
section
variable {t:TM} {e:Int} {U:UM}
theorem aA5 (h:cR t≠0):unE t=cR t:=if_pos h
theorem lW (h: ¬cR t≠0) (hx:unX t=(e,U)):unE t=e:=by unfold unE; rw [if_neg h,hx]
theorem iR (h:unE t≠0):unM t=zM:=if_neg h
theorem rA (h: ¬cR t≠0) (hx:unX t=(0,U)):unM t=⟨t.i+t.tm,0,U.nx,U.ot⟩:=by unfold unM; rw [if_pos (lW h hx),hx]
theorem aAU {o tm:Int} (h:0≤o∧o≤1048576) (ht:0≤tm∧tm≤4):0≤o*sgK tm∧o*sgK tm≤4199546880:=by
  have h1:0≤sgK tm∧sgK tm≤4005:=by unfold sgK; omega
  have h2:=Int.mul_nonneg h.1 h1.1
  have h3:o*sgK tm≤1048576*sgK tm:=Int.mul_le_mul_of_nonneg_right h.2 h1.1
  omega
theorem aEs (ht:TOK t) {c:Cf} (hc:mU t c) {i:Nat} (hi:(i:Int) < t.i+t.tm):0≤afC t c i∧afC t c i≤5005:=by
  obtain ⟨_,_,_,h4,_,_,_,_,_,_,_,h⟩:=ht
  have:=(h c.1.toNat (by have:=hc.1; have:=hc.2.1; omega)).2.2.2 i hi
  unfold afC
  split
  · omega
  · rename_i q
    unfold afN at q
    omega
end
end Go.Proofs.YtilfohjlglefjaaGreat
namespace Go.Proofs.YtilfohjlglefjaaGreat
open Go
theorem aIN {m:M} (h1:1≤m.i∧m.i≤64) (h2:0 < m.nx.length∧m.nx.length≤128) (h3:0≤m.s∧m.s < m.nx.length) (h4:m.ot.length=m.nx.length)
    (h5: ∀ s,s < m.nx.length→((nth m.nx s).length:Int)=m.i∧((nth m.ot s).length:Int)=m.i∧ ∀ a:Nat,a < m.i→0≤nth (nth m.nx s) a∧nth (nth m.nx s) a < m.nx.length∧0≤nth (nth m.ot s) a∧nth (nth m.ot s) a≤1048576):dU m=0:=by
  unfold dU
  rw [if_neg (by omega),if_neg (by omega),if_neg (by omega),if_neg (by omega),if_neg (by omega)]
  refine cE.2 fun s _ hs=>?_
  obtain ⟨g1,g2,g3⟩:=h5 s (by omega)
  unfold aAK
  rw [if_neg (by omega)]
  refine cE.2 fun a _ ha=>?_
  have:=g3 a (by omega)
  unfold aDb
  rw [if_neg (by omega)]
abbrev cC4 (c:Cf):List V:=[iV c.1,.bool (nth c.2 0),.bool (nth c.2 1),.bool (nth c.2 2),.bool (nth c.2 3)]
@[simp] theorem aMm {l:List Cf}:eZ (l.map cC4)=true:=fS _ _ fun a=>rfl
@[simp] theorem aLt {l:List Cf}:cP (l.map cC4)=true:=cS _ _ fun a=>rfl
def b4 (ver ty:Nat) (x:V) (l:List Bool):Blk:=⟨ver,true,false,ty,5,[[x,.bool (nth l 0),.bool (nth l 1),.bool (nth l 2),.bool (nth l 3)]]⟩
theorem aPI {j:Nat} (h:j < 4):j=0∨j=1∨j=2∨j=3:=by omega
theorem ld4 {ver ty:Nat} {x:V} {l:List Bool} {j:Nat} (h:j < 4):ldB false 1 ⟨ver,true,false,ty,5,[[x,.bool (nth l 0),.bool (nth l 1),.bool (nth l 2),.bool (nth l 3)]]⟩ ver 0 (1+j)=some (.bool (nth l j)):=by
  rcases aPI h with e|e|e|e <;> subst e <;> simp [ldB,Blk.own,ldV]
theorem st4 {ver ty:Nat} {x:V} {l:List Bool} {j:Nat} {b:Bool} (h:j < l.length) (h4:l.length≤4):
    stB ⟨ver,true,false,ty,5,[[x,.bool (nth l 0),.bool (nth l 1),.bool (nth l 2),.bool (nth l 3)]]⟩ ver 0 (1+j) 1 [.bool b]=
      some ⟨ver,true,false,ty,5,[[x,.bool (nth (l.set j b) 0),.bool (nth (l.set j b) 1),.bool (nth (l.set j b) 2),.bool (nth (l.set j b) 3)]]⟩:=by
  simp only [nH h]
  rcases aPI (show j < 4 by omega) with e|e|e|e <;> subst e <;> simp [stB,okB,Blk.own,eJ,V.one]
def afP (t:TM) (c:Cf) (i:Nat):Cf:=if psB t c i=true then afT t c i else c
def afD (t:TM) (c:Cf) (i:Nat):Int:=if psB t c i=true then afC t c i - 1 else -1
theorem nX {t:TM} {c:Cf} {i:Nat} (h:psB t c i=false):afP t c i=c∧afD t c i= -1:=by
  unfold afP afD; rw [h]; exact ⟨rfl,rfl⟩
theorem jD {t:TM} {c:Cf} {i:Nat} (h:psB t c i=true):afP t c i=afT t c i∧afD t c i=afC t c i - 1:=by
  unfold afP afD; rw [h]; exact ⟨rfl,rfl⟩
def vN (c:Cf):V:=.agg (cC4 c)
def zH:List Cf→Nat→List (List V)
  |[],_=>[]
  |c::l,k=>[vN c,iV ((k:Nat):Int)]::zH l (k+1)
def jK (l:List Cf):List (List V):=[.nilp,.nilp]::zH l 0
theorem aBj: ∀ (l:List Cf) (c:Cf) (k:Nat),zH (l++[c]) k=zH l k++[[vN c,iV (((k+l.length:Nat):Nat):Int)]]
  |[],c,k=>rfl
  | d :: l, c, k => by
    rw [List.cons_append,zH,zH,aBj l c (k+1),List.cons_append,List.length_cons,show k+1+l.length=k+(l.length+1) by omega]
theorem aGX {c d:Cf} (h:c.2.length=d.2.length) (h4:c.2.length≤4):(c.1=d.1∧nth c.2 0=nth d.2 0∧nth c.2 1=nth d.2 1∧nth c.2 2=nth d.2 2∧nth c.2 3=nth d.2 3)↔c=d:=by
  constructor
  · rintro ⟨h0,h1,h2,h3,h5⟩
    refine Prod.ext h0 (jC h fun j hj=>?_)
    rcases aPI (show j < 4 by omega) with e|e|e|e <;> subst e <;> assumption
  · intro e; subst e; exact ⟨rfl,rfl,rfl,rfl,rfl⟩
theorem aJ1 {c d:Cf} (h:c.2.length=d.2.length) (h4:c.2.length≤4):wA 1024 (vN c) (vN d)=some (decide (c=d)):=by
  show bY (rQ 300 1021) _ _=_
  rw [show rQ 300 1021=[0,2,2,2,2] by decide]
  simp only [cC4,bY,if_true,Option.map_some]
  congr 1
  refine Bool.eq_iff_iff.2 ?_
  rw [decide_eq_true_eq,← aGX h h4]
  simp [iV]
theorem aGA (c:Cf):lY 1024 (vN c)=true:=by
  show (bY (rQ 300 1021) _ _==some true)=true
  rw [show rQ 300 1021=[0,2,2,2,2] by decide]
  simp [cC4,bY,iV]
theorem aG7 {c : Cf} (h4 : c.2.length ≤ 4) : ∀ (l : List Cf) (k i : Nat), (∀ d ∈ l, d.2.length = c.2.length) → (fP 1024 (vN c) (zH l k) i = some none ∧ c ∉ l) ∨
    ∃ j,j < l.length∧nth l j=c∧(∀ x,x < j→nth l x≠c)∧fP 1024 (vN c) (zH l k) i=some (some (i+j,iV ((k+j:Nat):Int)))
  |[],k,i,_=>.inl ⟨rfl,by simp⟩
  | d :: l, k, i, h => by
    have hd:c.2.length=d.2.length:=(h d (List.mem_cons_self ..)).symm
    rw [zH,fP,aJ1 hd h4]
    by_cases e:c=d
    · refine .inr ⟨0,by simp,e.symm,fun x hx=>by omega,?_⟩
      rw [decide_eq_true e]; rfl
    · rw [decide_eq_false e]
      simp only
      rcases aG7 h4 l (k+1) (i+1) (fun x hx=>h x (List.mem_cons_of_mem _ hx)) with ⟨g1,g2⟩|⟨j,g1,g2,g3,g4⟩
      · exact .inl ⟨g1,fun q=>(List.mem_cons.1 q).elim e g2⟩
      · refine .inr ⟨j+1,by simp; exact g1,g2,fun x hx=>?_,by rw [g4,show i+1+j=i+(j+1) by omega,show k+1+j=k+(j+1) by omega]⟩
        cases x with
        |zero=>exact fun q=>e q.symm
        |succ x=>exact g3 x (by omega)
theorem rI {l:List Cf} {c:Cf} {j:Nat} (hj:j < l.length) (h1:nth l j=c) (h2: ∀ x,x < j→nth l x≠c):plc l c=j:=by
  rcases sE (l:=l) (c:=c) l.length 0 (by omega) with ⟨_,g2,g3⟩|⟨_,g2⟩
  · show aAo l c 0 l.length=j
    rcases Nat.lt_trichotomy (aAo l c 0 l.length) j with q|q|q
    · exact absurd g2 (h2 _ q)
    · exact q
    · exact absurd h1 (g3 j (Nat.zero_le _) q)
  · exact absurd h1 (g2 j (Nat.zero_le _) hj)
section
variable {ver:Nat} {l:List Cf} {c:Cf}
theorem aRn (h4:c.2.length≤4) (h: ∀ d∈l,d.2.length=c.2.length):aCw ⟨ver,true,true,gI,2,jK l⟩ ver 1024 (iV 0) (vN c)=some (iV (if plc l c=l.length then 0 else ((plc l c:Nat):Int)),decide (¬plc l c=l.length)):=by
  unfold aCw
  rw [if_pos (by simp [Blk.own,Blk.isM,gI,aGA,jK])]
  simp only [jK]
  rcases aG7 h4 l 0 0 h with ⟨g1,g2⟩|⟨j,g1,g2,g3,g4⟩
  · rw [g1]
    have e:plc l c=l.length:=by
      rcases pF l c with q|q
      · exact absurd (q.2 ▸ bF q.1) g2
      · exact q.1
    simp [e]
  · rw [g4]
    have e:=rI g1 g2 g3
    have hn: ¬plc l c=l.length:=by omega
    rw [if_neg hn,e]
    simp [show ¬j=l.length by omega]
theorem aSg (h4:c.2.length≤4) (h: ∀ d∈l,d.2.length=c.2.length) (hp:plc l c=l.length):xN ⟨ver,true,true,gI,2,jK l⟩ ver 1024 (vN c) (iV ((l.length:Nat):Int))=some ⟨ver,true,true,gI,2,jK (l++[c])⟩:=by
  unfold xN
  rw [if_pos (by simp [Blk.own,Blk.isM,gI,aGA,jK])]
  simp only [jK]
  rcases aG7 h4 l 0 0 h with ⟨g1,g2⟩|⟨j,g1,g2,g3,g4⟩
  · rw [g1]
    simp only
    rw [aBj,Nat.zero_add]
  · have e:=rI g1 g2 g3
    omega
end
theorem aMG {l:List Cf} {c:Cf} (h:l.Nodup):(cQ l c).Nodup:=by
  unfold cQ
  rcases pF l c with q|q
  · rw [if_neg (by omega)]; exact h
  · rw [if_pos q.1,List.nodup_append]
    exact ⟨h,by simp,fun a ha b hb=>by rw [List.mem_singleton.1 hb]; exact fun e=>q.2 (e ▸ ha)⟩
theorem aNw {l:List Cf} (h:l.Nodup) {k:Nat} (hk:k < l.length):plc l (nth l k)=k:=rI hk rfl fun x hx e=>by
  rw [← aM (show x < l.length by omega),← aM hk] at e
  exact List.pairwise_iff_getElem.1 h x k (by omega) hk hx e
section
variable {t:TM}
theorem oM (ht : TOK t) {k : Nat} : ∀ (n i : Nat) (S : US), i + n = (t.i + t.tm).toNat → UOK t S.l → k < S.l.length → S.a.length = i → S.b.length = i → (∀ x, x < i → 0 ≤ nth S.a x ∧ nth S.a x < S.l.length ∧ 0 ≤ nth S.b x ∧ nth S.b x ≤ 1048576) →
    ∀ S',dN t k n i S=(0,S')→UOK t S'.l∧S.l.length≤S'.l.length∧((S'.a.length:Nat):Int)=t.i+t.tm∧((S'.b.length:Nat):Int)=t.i+t.tm∧ ∀ x:Nat,x < t.i+t.tm→0≤nth S'.a x∧nth S'.a x < S'.l.length∧0≤nth S'.b x∧nth S'.b x≤1048576
  | 0, i, S, hi, hu, hk, ha, hb, hx, S', h => by
    rw [dN] at h
    cases h
    obtain ⟨g1,g2,g3,g4,g5,_⟩:=ht
    exact ⟨hu,Nat.le_refl _,by omega,by omega,fun x q=>hx x (by omega)⟩
  | n + 1, i, S, hi, hu, hk, ha, hb, hx, S', h => by
    rw [dN] at h
    split at h
    · refine oM ht n (i+1) ⟨S.l,S.a++[(k:Int)],S.b++[0]⟩ (by omega) hu hk (by simp; exact ha) (by simp; exact hb) (fun x hxx=>?_) S' h
      by_cases e:x < i
      · rw [show nth (S.a++[(k:Int)]) x=nth S.a x from bD (by omega),show nth (S.b++[(0:Int)]) x=nth S.b x from bD (by omega)]; exact hx x e
      · have e1:nth (S.a++[(k:Int)]) x=k:=by
          have:=cO (l:=S.a) (m:=[(k:Int)]) (j:=0)
          rw [show S.a.length+0=x by omega] at this; exact this
        have e2:nth (S.b++[(0:Int)]) x=0:=by
          have:=cO (l:=S.b) (m:=[(0:Int)]) (j:=0)
          rw [show S.b.length+0=x by omega] at this; exact this
        show 0≤nth (S.a++[(k:Int)]) x∧nth (S.a++[(k:Int)]) x < S.l.length∧0≤nth (S.b++[(0:Int)]) x∧nth (S.b++[(0:Int)]) x≤1048576
        rw [e1,e2]; omega
    · split at h
      · cases h
      split at h
      · cases h
      rename_i h1 h2 h3
      have cok:=hu.at hk
      have hI:(i:Int) < t.i+t.tm:=by obtain ⟨g1,g2,g3,g4,_⟩:=ht; omega
      have aok:=aC9 ht cok hI
      have hl:=aF7 S.l (afT t (nth S.l k) i)
      have hA:=aEs ht cok hI
      have gl:S.l.length≤(cQ S.l (afT t (nth S.l k) i)).length∧plc S.l (afT t (nth S.l k) i) < (cQ S.l (afT t (nth S.l k) i)).length:=by
        unfold cQ; split
        · rw [List.length_append,List.length_singleton]; omega
        · omega
      have ho:0≤unO t (nth S.l k) i:=by
        obtain ⟨g1,g2,g3,g4,g5,g6,g7,g8,g9,g10,g11,g12⟩:=ht
        have c1:=cok.1
        have c2:=cok.2.1
        have gx:=(g12 (nth S.l k).1.toNat (by omega)).2.2.2 i hI
        have:=aAU ⟨gx.2.2.1,gx.2.2.2.1⟩ ⟨g3,g4⟩
        unfold unO; omega
      have:=oM ht n (i+1) ⟨cQ S.l (afT t (nth S.l k) i),S.a++[(plc S.l (afT t (nth S.l k) i):Int)],S.b++[unO t (nth S.l k) i]⟩ (by omega) (hu.add aok h3) (by show k < (cQ _ _).length; omega) (by simp; exact ha) (by simp; exact hb) (fun x hxx=>?_) S' h
      · exact ⟨this.1,Nat.le_trans gl.1 this.2.1,this.2.2⟩
      by_cases e:x < i
      · have:=hx x e
        show 0≤nth (S.a++_) x∧nth (S.a++_) x < ((cQ S.l (afT t (nth S.l k) i)).length:Int)∧0≤nth (S.b++_) x∧nth (S.b++_) x≤1048576
        rw [bD (by omega),bD (by omega)]; omega
      · have e1:nth (S.a++[((plc S.l (afT t (nth S.l k) i):Nat):Int)]) x=((plc S.l (afT t (nth S.l k) i):Nat):Int):=by
          have:=cO (l:=S.a) (m:=[((plc S.l (afT t (nth S.l k) i):Nat):Int)]) (j:=0)
          rw [show S.a.length+0=x by omega] at this; exact this
        have e2:nth (S.b++[unO t (nth S.l k) i]) x=unO t (nth S.l k) i:=by
          have:=cO (l:=S.b) (m:=[unO t (nth S.l k) i]) (j:=0)
          rw [show S.b.length+0=x by omega] at this; exact this
        show 0≤nth (S.a++_) x∧nth (S.a++_) x < ((cQ S.l (afT t (nth S.l k) i)).length:Int)∧0≤nth (S.b++_) x∧nth (S.b++_) x≤1048576
        rw [e1,e2]; omega
def aHM (t:TM) (U:UM):Prop:= ∀ s,s < U.nx.length→((nth U.nx s).length:Int)=t.i+t.tm∧((nth U.ot s).length:Int)=t.i+t.tm∧ ∀ x:Nat,x < t.i+t.tm→0≤nth (nth U.nx s) x∧nth (nth U.nx s) x < U.l.length∧0≤nth (nth U.ot s) x∧nth (nth U.ot s) x≤1048576
theorem gZ (ht : TOK t) : ∀ (n k : Nat) (U : UM), k + n = 129 → UOK t U.l → k ≤ U.l.length → U.nx.length = k → U.ot.length = k → aHM t U → ∀ U', gQ t n k U = (0, U') → UOK t U'.l ∧ U'.nx.length = U'.l.length ∧ U'.ot.length = U'.l.length ∧ aHM t U'
  | 0, k, U, hk, hu, hl, ha, hb, hr, U', h => by
    have:=hu.len
    omega
  | n + 1, k, U, hk, hu, hl, ha, hb, hr, U', h => by
    rw [gQ] at h
    split at h
    · rename_i hkl
      generalize hS:dN t k (t.i+t.tm).toNat 0 ⟨U.l,[],[]⟩=R at h
      obtain ⟨e,S⟩:=R
      simp only at h
      split at h
      · rename_i q; cases h; exact absurd rfl q
      · rename_i q
        have he:e=0:=by simpa using q
        subst he
        obtain ⟨g1,g2,g3,g4,g5⟩:=oM ht (t.i+t.tm).toNat 0 ⟨U.l,[],[]⟩ (by omega) hu hkl rfl rfl (fun x hx=>by omega) S hS
        have g2:U.l.length≤S.l.length:=g2
        refine gZ ht n (k+1) ⟨S.l,U.nx++[S.a],U.ot++[S.b]⟩ (by omega) g1 (by show k+1≤S.l.length; omega) (by simp; exact ha) (by simp; exact hb) (fun s hs=>?_) U' h
        have hs:s < (U.nx++[S.a]).length:=hs
        rw [List.length_append,List.length_singleton] at hs
        by_cases e:s < k
        · obtain ⟨r1,r2,r3⟩:=hr s (by omega)
          show ((nth (U.nx++[S.a]) s).length:Int)=_∧((nth (U.ot++[S.b]) s).length:Int)=_∧ ∀ x:Nat,x < t.i+t.tm→0≤nth (nth (U.nx++[S.a]) s) x∧nth (nth (U.nx++[S.a]) s) x < S.l.length∧0≤nth (nth (U.ot++[S.b]) s) x∧nth (nth (U.ot++[S.b]) s) x≤1048576
          rw [bD (by omega),bD (by omega)]
          exact ⟨r1,r2,fun x hx=>by have:=r3 x hx; omega⟩
        · have e1:nth (U.nx++[S.a]) s=S.a:=by
            have:=cO (l:=U.nx) (m:=[S.a]) (j:=0)
            rw [show U.nx.length+0=s by omega] at this; exact this
          have e2:nth (U.ot++[S.b]) s=S.b:=by
            have:=cO (l:=U.ot) (m:=[S.b]) (j:=0)
            rw [show U.ot.length+0=s by omega] at this; exact this
          show ((nth (U.nx++[S.a]) s).length:Int)=_∧((nth (U.ot++[S.b]) s).length:Int)=_∧ ∀ x:Nat,x < t.i+t.tm→0≤nth (nth (U.nx++[S.a]) s) x∧nth (nth (U.nx++[S.a]) s) x < S.l.length∧0≤nth (nth (U.ot++[S.b]) s) x∧nth (nth (U.ot++[S.b]) s) x≤1048576
          rw [e1,e2]
          exact ⟨g3,g4,g5⟩
    · rename_i hkl
      cases h
      exact ⟨hu,by omega,by omega,hr⟩
theorem aHS (ht:TOK t) {U:UM} (h:unX t=(0,U)):dU ⟨t.i+t.tm,0,U.nx,U.ot⟩=0:=by
  obtain ⟨g1,g2,g3,g4⟩:=gZ ht 129 0 (ini t) (by omega) (oX ht) (Nat.zero_le _) rfl rfl (fun s hs=>absurd hs (Nat.not_lt_zero _)) U h
  have hl:=g1.len
  have hp:=g1.pos
  obtain ⟨a1,a2,a3,a4,a5,_⟩:=ht
  refine aIN ⟨by show 1≤t.i+t.tm; omega,by show t.i+t.tm≤64; omega⟩ ⟨by show 0 < U.nx.length; omega,by show U.nx.length≤128; omega⟩ ⟨Int.le_refl 0,by show (0:Int) < U.nx.length; omega⟩ (by show U.ot.length=U.nx.length; omega) fun s hs=>?_
  have:=g4 s hs
  rw [← g2] at this
  exact this
end
end Go.Proofs.YtilfohjlglefjaaGreat
namespace Go.Proofs.YtilfohjlglefjaaGreat
open Go
end Go.Proofs.YtilfohjlglefjaaGreat
namespace Go.Proofs.YtilfohjlglefjaaGreat
open Go
def unP (t:TM) (c:Cf) (i:Nat):Int:=if psB t c i=true then unO t c i else 0
theorem tU {t:TM} {c:Cf} {i:Nat} (h:psB t c i=true):unP t c i=unO t c i:=if_pos h
theorem aCX {t:TM} {c:Cf} {i:Nat} (h:psB t c i=false):unP t c i=0:=by unfold unP; rw [h]; rfl
section
variable {t:TM} {k n i:Nat} {S:US}
theorem aGu (h:i < n) (h2:1048576 < unP t (nth S.l k) i):dN t k (n - i) i S=(2,S):=by
  by_cases q:psB t (nth S.l k) i=true
  · rw [tU q] at h2; exact aKR h (by rw [q]; decide) h2
  · rw [aCX (by simpa using q)] at h2; omega
theorem aCk (h:psB t (nth S.l k) i=false) (hk:k < S.l.length) (hn:S.l.Nodup):afP t (nth S.l k) i=nth S.l k∧plc S.l (afP t (nth S.l k) i)=k∧cQ S.l (afP t (nth S.l k) i)=S.l:=by
  have e:=(nX h).1
  have e2:=aNw hn hk
  rw [e]
  refine ⟨rfl,e2,?_⟩
  unfold cQ
  rw [e2,if_neg (by omega)]
theorem aGY (h:i < n) (h2: ¬1048576 < unP t (nth S.l k) i) (hk:k < S.l.length) (hn:S.l.Nodup) (h3:plc S.l (afP t (nth S.l k) i)=S.l.length∧plc S.l (afP t (nth S.l k) i)=128):dN t k (n - i) i S=(11,S):=by
  by_cases q:psB t (nth S.l k) i=true
  · rw [(jD q).1] at h3; rw [tU q] at h2; exact aIO h (by rw [q]; decide) h2 h3
  · have:=(aCk (by simpa using q) hk hn).2.1; omega
theorem aEO (h:i < n) (h2: ¬1048576 < unP t (nth S.l k) i) (hk:k < S.l.length) (hn:S.l.Nodup) (h3: ¬(plc S.l (afP t (nth S.l k) i)=S.l.length∧plc S.l (afP t (nth S.l k) i)=128)):
    dN t k (n - i) i S=dN t k (n - (i+1)) (i+1) ⟨cQ S.l (afP t (nth S.l k) i),S.a++[((plc S.l (afP t (nth S.l k) i):Nat):Int)],S.b++[unP t (nth S.l k) i]⟩:=by
  by_cases q:psB t (nth S.l k) i=true
  · rw [(jD q).1] at h3 ⊢; rw [tU q] at h2 ⊢; exact aGV h (by rw [q]; decide) h2 h3
  · have q':psB t (nth S.l k) i=false:=by simpa using q
    obtain ⟨_,e2,e3⟩:=aCk q' hk hn
    rw [aGq h q',e2,e3,aCX q']
theorem aQG (ht:TOK t) {c:Cf} (hc:mU t c) (hi:(i:Int) < t.i+t.tm):mU t (afP t c i):=by
  unfold afP; split
  · exact aC9 ht hc hi
  · exact hc
theorem aNB (t:TM):(ini t).l.Nodup:=by simp [ini]
theorem UOK.len4 (ht:TOK t) {l:List Cf} (h:UOK t l) {c:Cf} (hc:mU t c):c.2.length≤4∧ ∀ d∈l,d.2.length=c.2.length:=
  ⟨by have:=hc.2.2; have:=ht.2.2.2.1; have:=ht.2.2.1; omega,fun d hd=>by rw [(h.all d hd).2.2,hc.2.2]⟩
theorem eK {t:TM} (ht:TOK t):(ini t).l.map cC4=[[iV t.s,.bool false,.bool false,.bool false,.bool false]]:=by
  have g: ∀ j,nth (List.replicate t.tm.toNat false) j=false:=fun j=>by
    show (List.replicate t.tm.toNat false).getD j default=false
    rw [List.getD_eq_getElem?_getD,List.getElem?_replicate]; split <;> rfl
  show [[iV t.s,.bool (nth (List.replicate t.tm.toNat false) 0),.bool (nth (List.replicate t.tm.toNat false) 1),.bool (nth (List.replicate t.tm.toNat false) 2),.bool (nth (List.replicate t.tm.toNat false) 3)]]=_
  rw [g,g,g,g]
theorem aTL {t:TM} (ht:TOK t) {ver:Nat}:xN ⟨ver,true,true,gI,2,[[.nilp,.nilp]]⟩ ver 1024 (.agg [iV t.s,.bool false,.bool false,.bool false,.bool false]) (iV 0)=some ⟨ver,true,true,gI,2,jK (ini t).l⟩:=by
  have h4:(List.replicate t.tm.toNat false).length≤4:=by rw [List.length_replicate]; have:=ht.2.2.2.1; omega
  have:=aSg (ver:=ver) (l:=[]) (c:=(t.s,List.replicate t.tm.toNat false)) h4 (fun d hd=>by cases hd) rfl
  have e:vN (t.s,List.replicate t.tm.toNat false)=.agg [iV t.s,.bool false,.bool false,.bool false,.bool false]:=by
    have h2:(ini t).l.map cC4=[cC4 (t.s,List.replicate t.tm.toNat false)]:=rfl
    rw [eK ht] at h2
    unfold vN
    rw [← (List.cons.inj h2).1]
  rw [e] at this
  exact this
end
end Go.Proofs.YtilfohjlglefjaaGreat
namespace Go.Proofs.YtilfohjlglefjaaGreat
open Go
theorem aFu (l:Ts) (o:Ob):((tst l o).1=l∧ ¬((tst l o).2.2.2=0∧(tst l o).2.1.length=0∧(tst l o).2.2.1=false))∨
    ((tst l o).2.2.2 = 0 ∧ (tst l o).2.1.length = 0 ∧ (tst l o).2.2.1 = false ∧ tsE l o = 0 ∧ sfE l o = 0 ∧ (mxW (qra l o)).length = 0 ∧ ∃ k : Nat, k < (exs l).length ∧ tsN l o = k ∧ inx l o k = true ∧
      grE l.t (bW l.t o (nth (exs l) k)).1 (bho o (nth (exs l) k) (nth l.t.nd (bW l.t o (nth (exs l) k)).1.toNat).sf) (nth (exs l) k)=0∧
      (tst l o).1=⟨l.i,grT l.t (bW l.t o (nth (exs l) k)).1 (bho o (nth (exs l) k) (nth l.t.nd (bW l.t o (nth (exs l) k)).1.toNat).sf) (nth (exs l) k)⟩):=by
  by_cases h1:tsE l o≠0
  · rw [aPy h1]; exact .inl ⟨rfl,fun h=>h1 h.1⟩
  by_cases h2:sfE l o≠0
  · rw [aOu h1 h2]; exact .inl ⟨rfl,fun h=>h2 h.1⟩
  by_cases h3:0 < (mxW (qra l o)).length
  · rw [aIb h1 h2 h3]; exact .inl ⟨rfl,fun h=>by have:=h.2.1; dsimp only at this; omega⟩
  by_cases h4:tsN l o < 0
  · rw [aGb h1 h2 h3 h4]; exact .inl ⟨rfl,fun h=>by simp at h⟩
  by_cases h5:128≤(acL l.t.nd).length
  · rw [aIg h1 h2 h3 (by omega) h5]; exact .inl ⟨rfl,fun h=>by simp at h⟩
  have h4':0≤tsN l o:=by omega
  have hb:=(aHv (p:=inx l o) (exs l).length 0).2 h4'
  have hv:=zZ h4'
  have hk:tsN l o=((tsN l o).toNat:Int):=by omega
  by_cases h6:grE l.t (bW l.t o (nth (exs l) (tsN l o).toNat)).1 (bho o (nth (exs l) (tsN l o).toNat) (nth l.t.nd (bW l.t o (nth (exs l) (tsN l o).toNat)).1.toNat).sf) (nth (exs l) (tsN l o).toNat)≠0
  · rw [aQo h1 h2 h3 hk (by omega) h6]; exact .inl ⟨rfl,fun h=>h6 h.1⟩
  · refine .inr ?_
    rw [aPE h1 h2 h3 hk (by omega) h6]
    exact ⟨rfl,rfl,rfl,by omega,by omega,by omega,(tsN l o).toNat,by have e:fi (inx l o) 0 (exs l).length=tsN l o:=rfl; rw [e] at hb; omega,hk,hv.2.2.1,by omega,rfl⟩
theorem aE5 (l:Ts) (o:Ob) (s:Spl):((rfR l o s).1=l∧ ¬((rfR l o s).2.2=0∧(rfR l o s).2.1.length=0))∨
    ((rfR l o s).2.2=0∧(rfR l o s).2.1.length=0∧tsE l o=0∧prS s l.i=0∧(bW l.t o (rfW s)).2.2=0∧(bW l.t o (rfW s)).2.1.length=0∧(rfN l o s).lf=true∧(msW o (rfB l o s)).length=0∧rfG l o s=0∧(rfR l o s).1=rfT l o s):=by
  by_cases h1:tsE l o≠0
  · rw [aSS h1]; exact .inl ⟨rfl,fun h=>h1 h.1⟩
  by_cases h2:prS s l.i≠0
  · rw [aSo h1 h2]; exact .inl ⟨rfl,fun h=>h2 h.1⟩
  by_cases h3:(bW l.t o (rfW s)).2.2≠0
  · rw [aRL h1 h2 h3]; exact .inl ⟨rfl,fun h=>h3 h.1⟩
  by_cases h4:0 < (bW l.t o (rfW s)).2.1.length
  · rw [aRA h1 h2 h3 h4]; exact .inl ⟨rfl,fun h=>by simp at h⟩
  by_cases h5:(rfN l o s).lf=false
  · rw [aTv h1 h2 h3 h4 h5]; exact .inl ⟨rfl,fun h=>by simp at h⟩
  by_cases h6:1024 < (rfN l o s).ac.length+s.x.length∨1024 < (rfW s).length+s.x.length
  · rw [aSd h1 h2 h3 h4 h5 h6]; exact .inl ⟨rfl,fun h=>by simp at h⟩
  by_cases h7:0 < (msW o (rfB l o s)).length
  · rw [aTK h1 h2 h3 h4 h5 h6 h7]
    refine .inl ⟨rfl,fun h=>?_⟩
    have:=vL (l:=msW o (rfB l o s)) h.2
    rw [this] at h7; simp at h7
  by_cases h8:128≤(acL l.t.nd).length
  · rw [aRm h1 h2 h3 h4 h5 h6 h7 h8]; exact .inl ⟨rfl,fun h=>by simp at h⟩
  by_cases h9:rfG l o s≠0
  · rw [aRY h1 h2 h3 h4 h5 h6 h7 h8 h9]; exact .inl ⟨rfl,fun h=>h9 h.1⟩
  · rw [aL7 h1 h2 h3 h4 h5 h6 h7 h8 h9]
    exact .inr ⟨rfl,rfl,by omega,by omega,by omega,by omega,by simpa using h5,by omega,by omega,rfl⟩
end Go.Proofs.YtilfohjlglefjaaGreat
namespace Go.Proofs.YtilfohjlglefjaaGreat
open Go
structure Pr where
  s:Int
  t:Int
  w:List Int
  deriving Inhabited
abbrev cPr (p:Pr):List V:=[iV p.s,iV p.t,aS p.w]
@[simp] theorem aMF (l:List Pr):eZ (l.map cPr)=true:=fS _ _ fun a=>by simp [cPr]
@[simp] theorem aLh (l:List Pr):cP (l.map cPr)=true:=cS _ _ fun a=>by simp [cPr]
def knK (L:List Pr) (u v:Int):Nat→Bool
  |0=>false
  |k+1=>knK L u v k||decide ((nth L k).s=u∧(nth L k).t=v)
theorem jA {L:List Pr} {u v:Int}: ∀ {k:Nat},knK L u v k=true↔ ∃ j,j < k∧(nth L j).s=u∧(nth L j).t=v
  |0=>by simp [knK]
  | k + 1 => by
    simp only [knK,Bool.or_eq_true,decide_eq_true_eq,jA (k:=k)]
    constructor
    · rintro (⟨j,h1,h2⟩|h)
      · exact ⟨j,by omega,h2⟩
      · exact ⟨k,by omega,h⟩
    · rintro ⟨j,h1,h2⟩
      by_cases e:j=k
      · subst e; exact .inr h2
      · exact .inl ⟨j,by omega,h2⟩
def nxS (m:M) (s:Int) (x:Nat):Int:=nth (nth m.nx s.toNat) x
def otS (m:M) (s:Int) (x:Nat):Int:=nth (nth m.ot s.toNat) x
def bqS (a b:M) (p:Pr) (L:List Pr) (x:Nat):List Pr:=
  if knK L (nxS a p.s x) (nxS b p.t x) L.length=true then L else L++[⟨nxS a p.s x,nxS b p.t x,p.w++[(x:Int)]⟩]
def bqR (a b:M) (p:Pr) (L:List Pr):Nat→List Pr
  |0=>L
  |x+1=>bqS a b p (bqR a b p L x) x
def bqD (a b:M) (p:Pr) (x:Nat):Bool:=decide (otS a p.s x≠otS b p.t x)
def bq (a b:M):Nat→Nat→List Pr→Option (List Int)
  |0,_,_=>none
  |n+1,i,L=>if i < L.length then (if 0≤fi (bqD a b (nth L i)) 0 a.i.toNat then some ((nth L i).w++[fi (bqD a b (nth L i)) 0 a.i.toNat]) else bq a b n (i+1) (bqR a b (nth L i) L a.i.toNat)) else none
def dst (a b:M) (s t:Int):Option (List Int):=bq a b (a.nx.length*b.nx.length+1) 0 [⟨s,t,[]⟩]
theorem aEg (a b:M) (p:Pr) (L:List Pr) (x:Nat): ∃ y,bqS a b p L x=L++y:=by
  unfold bqS; split
  · exact ⟨[],by simp⟩
  · exact ⟨_,rfl⟩
theorem uD (a b:M) (p:Pr) (L:List Pr): ∀ x,∃ y,bqR a b p L x=L++y
  |0=>⟨[],by simp [bqR]⟩
  | x + 1 => by
    obtain ⟨y,hy⟩:=uD a b p L x
    obtain ⟨z,hz⟩:=aEg a b p (bqR a b p L x) x
    exact ⟨y++z,by rw [bqR,hz,hy,List.append_assoc]⟩
theorem uA {a b:M} {p:Pr} {L:List Pr} {x i:Nat} (h:i < L.length):nth (bqR a b p L x) i=nth L i:=by
  obtain ⟨y,hy⟩:=uD a b p L x
  rw [hy,bD h]
theorem tT {a b:M} {p:Pr} {L:List Pr} {x:Nat}:L.length≤(bqR a b p L x).length:=by
  obtain ⟨y,hy⟩:=uD a b p L x
  rw [hy,List.length_append]; omega
theorem dO {a b:M} {p:Pr} {L:List Pr} {x:Nat} (h:knK (bqR a b p L x) (nxS a p.s x) (nxS b p.t x) (bqR a b p L x).length=true):bqR a b p L (x+1)=bqR a b p L x:=if_pos h
theorem cF {a b:M} {p:Pr} {L:List Pr} {x:Nat} (h:knK (bqR a b p L x) (nxS a p.s x) (nxS b p.t x) (bqR a b p L x).length=false):
    bqR a b p L (x+1)=bqR a b p L x++[⟨nxS a p.s x,nxS b p.t x,p.w++[(x:Int)]⟩]:=if_neg (by rw [h]; decide)
def InW (n:Int) (w:List Int):Prop:= ∀ k,k < w.length→0≤nth w k∧nth w k < n
theorem InW.snoc {n:Int} {w:List Int} (h:InW n w) {x:Int} (h0:0≤x) (h1:x < n):InW n (w++[x]):=by
  intro k hk
  rw [List.length_append,List.length_singleton] at hk
  by_cases e:k < w.length
  · rw [bD e]; exact h k e
  · have q:nth (w++[x]) (w.length+(k - w.length))=nth [x] (k - w.length):=cO
    rw [show w.length+(k - w.length)=k by omega,show k - w.length=0 by omega,eA] at q
    rw [q]; exact ⟨h0,h1⟩
theorem aG0 {n a:Int} {w:List Int} (h:InW n (a::w)):0≤a∧a < n∧InW n w:=by
  have h0:=h 0 (by simp)
  rw [eA] at h0
  refine ⟨h0.1,h0.2,fun k hk=>?_⟩
  have:=h (k+1) (by simpa using hk)
  rwa [jU] at this
theorem aDt {m:M} (h:dU m=0) {s:Int} {x:Nat} (h0:0≤s) (h1:s < m.nx.length) (hx:x < m.i.toNat):0≤nxS m s x∧nxS m s x < m.nx.length∧0≤otS m s x∧otS m s x≤1048576:=by
  have:=((iW h).2.2.2.2.2.2.2 s.toNat (by omega)).2.2 x (by omega)
  exact this
theorem aEo {m:M} (h:dU m=0) {s:Int} (h0:0≤s) (h1:s < m.nx.length):(nth m.nx s.toNat).length=m.i.toNat∧(nth m.ot s.toNat).length=m.i.toNat∧m.ot.length=m.nx.length:=by
  have q:=iW h
  have:=q.2.2.2.2.2.2.2 s.toNat (by omega)
  omega
theorem aDr (m:M) (s:Int) (x:Nat):cell m.ot s (x:Int)=otS m s x:=rfl
structure BI (a b:M) (s0 t0:Int) (L:List Pr):Prop where
  rg: ∀ p∈L,0≤p.s∧p.s < a.nx.length∧0≤p.t∧p.t < b.nx.length
  nd:L.Pairwise fun p q=> ¬(p.s=q.s∧p.t=q.t)
  st: ∀ p∈L,oR a s0 p.w=p.s∧oR b t0 p.w=p.t∧bI a s0 p.w=bI b t0 p.w∧InW a.i p.w
  ln: ∀ k,k < L.length→(nth L k).w.length≤k
  hd:0 < L.length∧(nth L 0).s=s0∧(nth L 0).t=t0
section
variable {a b:M} {s0 t0:Int}
theorem BI.start (h1:0≤s0) (h2:s0 < a.nx.length) (h3:0≤t0) (h4:t0 < b.nx.length):BI a b s0 t0 [⟨s0,t0,[]⟩]:=by
  refine ⟨fun p hp=>?_,List.pairwise_singleton _ _,fun p hp=>?_,fun k hk=>?_,by simp,rfl,rfl⟩
  · rw [List.mem_singleton.1 hp]; exact ⟨h1,h2,h3,h4⟩
  · rw [List.mem_singleton.1 hp]; exact ⟨rfl,rfl,rfl,fun k hk=>by simp at hk⟩
  · have:k=0:=by simpa using hk
    subst this; simp [eA]
theorem BI.step (ha : dU a = 0) (hb : dU b = 0) (hi : a.i = b.i) {L : List Pr} (h : BI a b s0 t0 L) {i x : Nat} (hk : i < L.length) (hx : x < a.i.toNat) {q : Pr} (hq : q = nth L i) (hd : bqD a b q x = false) : BI a b s0 t0 (bqS a b q L x) := by
  unfold bqS
  split
  · exact h
  · rename_i hn
    have hm:nth L i∈L:=bF hk
    have r:=h.rg _ hm
    have s:=h.st _ hm
    rw [← hq] at r s
    have n1:=aDt ha r.1 r.2.1 hx
    have n2:=aDt hb r.2.2.1 r.2.2.2 (show x < b.i.toNat by rw [← hi]; exact hx)
    refine ⟨fun p hp=>?_,?_,fun p hp=>?_,fun k hk2=>?_,?_⟩
    · rcases List.mem_append.1 hp with e|e
      · exact h.rg p e
      · rw [List.mem_singleton.1 e]; exact ⟨n1.1,n1.2.1,n2.1,n2.2.1⟩
    · rw [List.pairwise_append]
      refine ⟨h.nd,List.pairwise_singleton _ _,fun p hp r hr e=>?_⟩
      rw [List.mem_singleton.1 hr] at e
      obtain ⟨j,hj,rfl⟩:=dP hp
      exact hn (jA.2 ⟨j,hj,e⟩)
    · rcases List.mem_append.1 hp with e|e
      · exact h.st p e
      · rw [List.mem_singleton.1 e]
        have e1:otS a q.s x=otS b q.t x:=by simpa [bqD] using hd
        refine ⟨by rw [mR,s.1]; rfl,by rw [mR,s.2.1]; rfl,?_,s.2.2.2.snoc (by omega) (by omega)⟩
        rw [gH,gH,s.1,s.2.1,s.2.2.1]
        show _++[cell a.ot q.s (x:Int)]=_++[cell b.ot q.t (x:Int)]
        rw [aDr,aDr,e1]
    · rw [List.length_append,List.length_singleton] at hk2
      by_cases e:k < L.length
      · rw [bD e]; exact h.ln k e
      · have z:nth (L++[(⟨nxS a q.s x,nxS b q.t x,q.w++[(x:Int)]⟩:Pr)]) (L.length+(k - L.length))=_:=cO
        rw [show L.length+(k - L.length)=k by omega,show k - L.length=0 by omega,eA] at z
        rw [z]
        have:=h.ln i hk
        rw [← hq] at this
        show (q.w++[(x:Int)]).length≤k
        rw [List.length_append,List.length_singleton]; omega
    · refine ⟨by rw [List.length_append]; have:=h.hd.1; omega,?_⟩
      rw [bD h.hd.1]; exact h.hd.2
theorem BI.row (ha:dU a=0) (hb:dU b=0) (hi:a.i=b.i) {L:List Pr} (h:BI a b s0 t0 L) {i:Nat} (hk:i < L.length): ∀ {x:Nat},x≤a.i.toNat→(∀ j,j < x→bqD a b (nth L i) j=false)→BI a b s0 t0 (bqR a b (nth L i) L x)
  |0,_,_=>h
  | x + 1, hx, hd => by
    have ih:=BI.row ha hb hi h hk (x:=x) (by omega) fun j hj=>hd j (by omega)
    exact ih.step ha hb hi (i:=i) (Nat.lt_of_lt_of_le hk tT) (by omega) (uA hk).symm (hd x (by omega))
theorem aFb {n s s' t t':Int} (h1:0≤t) (h2:t < n) (h3:0≤t') (h4:t' < n) (e:s*n+t=s'*n+t'):s=s'∧t=t':=by
  have hd: ∀ {u v:Int},0≤v→v < n→(u*n+v) / n=u:=fun {u v} hv hv'=>by
    rw [Int.add_comm,Int.add_mul_ediv_right _ _ (by omega),Int.ediv_eq_zero_of_lt hv hv']; omega
  have:=hd (u:=s) h1 h2
  rw [e,hd h3 h4] at this
  subst this
  exact ⟨rfl,by omega⟩
theorem BI.len {L:List Pr} (h:BI a b s0 t0 L):L.length≤a.nx.length*b.nx.length:=by
  have key:(L.map fun p=>p.s*(b.nx.length:Int)+p.t).length≤((List.range (a.nx.length*b.nx.length)).map fun (n:Nat)=>(n:Int)).length:=by
    refine aA9 ?_ fun z hz=>?_
    · rw [List.nodup_iff_pairwise_ne,List.pairwise_map]
      refine List.Pairwise.imp_of_mem ?_ h.nd
      intro p q hp hq hn e
      have r1:=h.rg p hp; have r2:=h.rg q hq
      exact hn (aFb r1.2.2.1 r1.2.2.2 r2.2.2.1 r2.2.2.2 e)
    · obtain ⟨p,hp,rfl⟩:=List.mem_map.1 hz
      have r:=h.rg p hp
      have u1:p.s*(b.nx.length:Int)≤((a.nx.length:Int) - 1)*(b.nx.length:Int):=Int.mul_le_mul_of_nonneg_right (by omega) (by omega)
      have u2:0≤p.s*(b.nx.length:Int):=Int.mul_nonneg r.1 (by omega)
      rw [Int.sub_mul] at u1
      have u3:((a.nx.length*b.nx.length:Nat):Int)=(a.nx.length:Int)*(b.nx.length:Int):=Int.natCast_mul _ _
      exact List.mem_map.2 ⟨(p.s*(b.nx.length:Int)+p.t).toNat,List.mem_range.2 (by omega),by omega⟩
  simpa using key
def Cl (a b:M) (L:List Pr) (i:Nat):Prop:= ∀ j,j < i→ ∀ x,x < a.i.toNat→bqD a b (nth L j) x=false∧knK L (nxS a (nth L j).s x) (nxS b (nth L j).t x) L.length=true
theorem aA7 {L y:List Pr} {u v:Int} (h:knK L u v L.length=true):knK (L++y) u v (L++y).length=true:=by
  obtain ⟨j,h1,h2⟩:=jA.1 h
  exact jA.2 ⟨j,by rw [List.length_append]; omega,by rw [bD h1]; exact h2⟩
theorem aDW {p : Pr} {L : List Pr} : ∀ {x j : Nat}, j < x → knK (bqR a b p L x) (nxS a p.s j) (nxS b p.t j) (bqR a b p L x).length = true
  | x + 1, j, h => by
    obtain ⟨y,hy⟩:=aEg a b p (bqR a b p L x) x
    rw [bqR]
    by_cases e:j=x
    · subst e
      unfold bqS
      split
      · rename_i q; exact q
      · refine jA.2 ⟨(bqR a b p L j).length,by simp,?_⟩
        have z:nth (bqR a b p L j++[(⟨nxS a p.s j,nxS b p.t j,p.w++[(j:Int)]⟩:Pr)]) ((bqR a b p L j).length+0)=_:=cO
        rw [Nat.add_zero,eA] at z
        rw [z]; exact ⟨rfl,rfl⟩
    · rw [hy]; exact aA7 (aDW (x:=x) (j:=j) (by omega))
theorem Cl.next {L:List Pr} {i:Nat} (h:Cl a b L i) (hi:i < L.length) (hd: ∀ x,x < a.i.toNat→bqD a b (nth L i) x=false):Cl a b (bqR a b (nth L i) L a.i.toNat) (i+1):=by
  intro j hj x hx
  by_cases e:j=i
  · subst e
    rw [uA hi]
    exact ⟨hd x hx,aDW hx⟩
  · rw [uA (by omega)]
    obtain ⟨y,hy⟩:=uD a b (nth L i) L a.i.toNat
    have q:=h j (by omega) x hx
    exact ⟨q.1,by rw [hy]; exact aA7 q.2⟩
theorem xY (hi:a.i=b.i) {L:List Pr} (h:Cl a b L L.length): ∀ (w:List Int) (k:Nat),k < L.length→InW a.i w→bI a (nth L k).s w=bI b (nth L k).t w
  |[],_,_,_=>rfl
  | c :: w, k, hk, hw => by
    obtain ⟨c0,c1,hw'⟩:=aG0 hw
    have q:=h k hk c.toNat (by omega)
    obtain ⟨j,hj,e1,e2⟩:=jA.1 q.2
    have e3:otS a (nth L k).s c.toNat=otS b (nth L k).t c.toNat:=by simpa [bqD] using q.1
    have ih:=xY hi h w j hj hw'
    simp only [bI]
    have f1:cell a.nx (nth L k).s c=(nth L j).s:=e1.symm
    have f2:cell b.nx (nth L k).t c=(nth L j).t:=e2.symm
    have f3:cell a.ot (nth L k).s c=cell b.ot (nth L k).t c:=e3
    rw [f1,f2,f3,ih]
def aKW (a b:M) (s0 t0:Int):Option (List Int)→Prop
  |some w=>bI a s0 w≠bI b t0 w∧InW a.i w∧w.length≤a.nx.length*b.nx.length∧0 < w.length
  |none=> ∀ w,InW a.i w→bI a s0 w=bI b t0 w
theorem aCq (ha : dU a = 0) (hb : dU b = 0) (hi : a.i = b.i) : ∀ (n i : Nat) (L : List Pr), BI a b s0 t0 L → Cl a b L i → i ≤ L.length → a.nx.length * b.nx.length < n + i → aKW a b s0 t0 (bq a b n i L)
  |0,i,L,h,_,hl,hn=>by have:=h.len; omega
  | n + 1, i, L, h, hc, hl, hn => by
    unfold bq
    by_cases e:i < L.length
    · rw [if_pos e]
      by_cases d:0≤fi (bqD a b (nth L i)) 0 a.i.toNat
      · rw [if_pos d]
        have s:=h.st _ (bF e)
        have hv:=zZ d
        have hx:(fi (bqD a b (nth L i)) 0 a.i.toNat).toNat < a.i.toNat:=by have:=hv.2.1; omega
        have hD:otS a (nth L i).s (fi (bqD a b (nth L i)) 0 a.i.toNat).toNat≠otS b (nth L i).t (fi (bqD a b (nth L i)) 0 a.i.toNat).toNat:=by simpa [bqD] using hv.2.2.1
        refine ⟨fun q=>hD ?_,s.2.2.2.snoc d (by omega),?_,by simp⟩
        · rw [gH,gH,s.1,s.2.1,s.2.2.1] at q
          have:=List.append_cancel_left q
          have z:=List.head_eq_of_cons_eq this
          exact z
        · have:=h.ln i e; have:=h.len
          rw [List.length_append,List.length_singleton]; omega
      · rw [if_neg d]
        have hd: ∀ x,x < a.i.toNat→bqD a b (nth L i) x=false:=fun x hx=>by
          by_cases z:bqD a b (nth L i) x=true
          · exact (d (uO.2 ⟨x,Nat.zero_le _,by omega,z⟩)).elim
          · simpa using z
        exact aCq ha hb hi n (i+1) _ (h.row ha hb hi e (Nat.le_refl _) hd) (hc.next e hd) (by have:=tT (a:=a) (b:=b) (p:=nth L i) (L:=L) (x:=a.i.toNat); omega) (by omega)
    · rw [if_neg e]
      intro w hw
      have:=xY hi (by rw [show L.length=i by omega]; exact hc) w 0 h.hd.1 hw
      rwa [h.hd.2.1,h.hd.2.2] at this
theorem yC (ha:dU a=0) (hb:dU b=0) (hi:a.i=b.i) (h1:0≤s0) (h2:s0 < a.nx.length) (h3:0≤t0) (h4:t0 < b.nx.length):aKW a b s0 t0 (dst a b s0 t0):=
  aCq ha hb hi _ 0 _ (BI.start h1 h2 h3 h4) (fun j hj=>by omega) (Nat.zero_le _) (by omega)
end
theorem aJp {a b:M} {p:Pr} {n:Nat} (h: ∀ j,j < n→bqD a b p j=false): ¬0≤fi (bqD a b p) 0 n:=by
  intro e
  obtain ⟨j,_,hj,q⟩:=uO.1 e
  rw [h j (by omega)] at q; cases q
theorem aTD {a b:M} {N i:Nat} {L:List Pr} (hn:i < N) (hi:i < L.length) (h: ∀ j,j < a.i.toNat→bqD a b (nth L i) j=false):bq a b (N - i) i L=bq a b (N - (i+1)) (i+1) (bqR a b (nth L i) L a.i.toNat):=by
  obtain ⟨n,e⟩: ∃ n,N - i=n+1:=⟨N - i - 1,by omega⟩
  rw [e,show N - (i+1)=n by omega,bq,if_pos hi,if_neg (aJp h)]
theorem aM9 {a b:M} {n i:Nat} {L:List Pr} (hi:L.length≤i):bq a b n i L=none:=by
  cases n with
  |zero=>rfl
  |succ n=>rw [bq,if_neg (by omega)]
theorem aQR {a b:M} {N i x:Nat} {L:List Pr} (hi:i < L.length) (hn:i < N) (hx:x < a.i.toNat) (hd:bqD a b (nth L i) x=true) (h: ∀ j,j < x→bqD a b (nth L i) j=false):bq a b (N - i) i L=some ((nth L i).w++[(x:Int)]):=by
  obtain ⟨n,e⟩: ∃ n,N - i=n+1:=⟨N - i - 1,by omega⟩
  have key: ∀ k,k≤x→fi (bqD a b (nth L i)) 0 a.i.toNat=fi (bqD a b (nth L i)) k (a.i.toNat - k):=by
    intro k
    induction k with
    |zero=>intro _; rfl
    |succ k ih=>intro hk; rw [ih (by omega),aIv (h k (by omega)) (by omega)]
  have hf:fi (bqD a b (nth L i)) 0 a.i.toNat=(x:Int):=by rw [key x (Nat.le_refl _),aQp hd hx]
  rw [e,bq,if_pos hi,hf,if_pos (by omega)]
end Go.Proofs.YtilfohjlglefjaaGreat
namespace Go.Proofs.YtilfohjlglefjaaGreat
open Go
def aSm (m:M) (o:Ob) (k:Nat):Int:=if bI m m.s (nth o.tr k).ni=(nth o.tr k).no then 0 else 1
def aFP (m:M) (o:Ob):Bool:=decide (fe (aSm m o) 0 o.tr.length=0)
theorem aMK {m:M} {o:Ob} (h:aFP m o=true): ∀ t∈o.tr,t.no=bI m m.s t.ni:=by
  intro t ht
  obtain ⟨k,hk,rfl⟩:=dP ht
  have:=cE.1 (of_decide_eq_true h) k (Nat.zero_le _) (by omega)
  unfold aSm at this
  split at this
  · rename_i q; exact q.symm
  · cases this
theorem aHq {m:M} {o:Ob} (h:aFP m o=true) {w x:List Int} (ha:ans o w=some x):x=bI m m.s w:=by
  unfold ans at ha
  split at ha
  · rename_i e; subst e; cases ha; rfl
  · obtain ⟨t,ht,h1,h2⟩:=yA ha
    rw [h2,aMK h t ht]
    obtain ⟨y,hy⟩:=aAc.1 h1
    rw [hy,← yP,List.take_left]
theorem qW {m:M} {o:Ob} (h:aFP m o=true) {w x:List Int} (ha:(ans o (cat [w,x])).isSome=true):bho o w x=bI m (oR m m.s w) x:=by
  obtain ⟨y,hy⟩:=Option.isSome_iff_exists.1 ha
  have:=aHq h hy
  unfold bho
  rw [hy,Option.getD_some,this]
  simp only [cat,List.append_nil]
  rw [gH]
  exact List.drop_left' (aBs _ _ _)
inductive Bel (t:Dt):Int→List Int→Prop where
  |leaf {n:Int} (h:(nth t.nd n.toNat).lf=true):Bel t n (nth t.nd n.toNat).ac
  |kid {n a:Int} {w:List Int} (h:(nth t.nd n.toNat).lf=false) (ha:a∈(nth t.nd n.toNat).kd) (hb:Bel t a w):Bel t n w
inductive Rea (t:Dt):Int→Int→Prop where
  |refl (n:Int):Rea t n n
  |kid {n a b:Int} (h:(nth t.nd n.toNat).lf=false) (ha:a∈(nth t.nd n.toNat).kd) (hb:Rea t a b):Rea t n b
def Snd (t:Dt) (m:M) (n:Int):Prop:= ∀ b,Rea t n b→(nth t.nd b.toNat).lf=false→ ∀ i,i < (nth t.nd b.toNat).kd.length→ ∀ w,Bel t (nth (nth t.nd b.toNat).kd i) w→bI m (oR m m.s w) (nth t.nd b.toNat).sf=nth (nth t.nd b.toNat).ou i
theorem Snd.kid {t:Dt} {m:M} {n a:Int} (h:Snd t m n) (hl:(nth t.nd n.toNat).lf=false) (ha:a∈(nth t.nd n.toNat).kd):Snd t m a:=fun b hb=>h b (.kid hl ha hb)
theorem aHI {t : Dt} (hv : dvE t = 0) {k : Nat} (hk : k < t.nd.length) (hl : (nth t.nd k).lf = true) : Bel t 0 (nth t.nd k).ac := by
  obtain ⟨P,hP⟩:=kC hv
  have hki:=kH hv
  have up : ∀ (s : Nat), s < P.length → ∀ w, Bel t (nth P s) w → Bel t 0 w := by
    intro s
    induction s using Nat.strongRecOn with
    | _ s ih =>
      intro hs w hw
      by_cases e:s=0
      · subst e; rwa [hP.head.1] at hw
      · obtain ⟨j,hj,ha⟩:=hP.1.par (s:=s) (by omega) hs
        have r:=hP.1.rng hki _ (bF (show j < P.length by omega))
        have hjl:(nth t.nd (nth P j).toNat).lf=false:=by
          by_cases z:(nth t.nd (nth P j).toNat).lf=true
          · have:=(aGg hv (show (nth P j).toNat < t.nd.length by omega) z).kd
            rw [this] at ha; cases ha
          · simpa using z
        exact ih j hj (by omega) w (.kid hjl ha hw)
  obtain ⟨s,hs,e⟩:=hP.all hki (a:=(k:Int)) (by omega) (by omega)
  have:Bel t (nth P s) (nth t.nd k).ac:=by
    rw [e]
    have z:=Bel.leaf (t:=t) (n:=(k:Int)) (by simpa using hl)
    simpa using z
  exact up s hs _ this
def Apt (m:M) (u v:List Int):Prop:= ∃ z,InW m.i z∧bI m (oR m m.s u) z≠bI m (oR m m.s v) z
theorem Apt.symm {m:M} {u v:List Int} (h:Apt m u v):Apt m v u:=by obtain ⟨z,h1,h2⟩:=h; exact ⟨z,h1,h2.symm⟩
theorem pH {w:List Int} {n:Int} (h:dX w n=0):InW n w:=(qB h).2
theorem aNr {l:List (List Int)} (hs:qO l) {i j:Nat} (hi:i < l.length) (hj:j < l.length) (e:nth l i=nth l j):i=j:=by
  rcases Nat.lt_trichotomy i j with q|q|q
  · have:=qJ hs q hj; rw [e,bZ.2 rfl] at this; omega
  · exact q
  · have:=qJ hs q hi; rw [e,bZ.2 rfl] at this; omega
theorem yZ {t : Dt} {o : Ob} {m : M} {w : List Int} (hv : dvE t = 0) (hx : aFP m o = true) (hsw : ∀ k, k < t.nd.length → InW m.i (nth t.nd k).sf) {a : Int} : ∀ {f n : Nat}, Rk t f n → Snd t m (n : Int) → jY t o w f n = (a, [], 0) →
    ∀ p,Bel t (n:Int) p→Bel t a p∨Apt m w p
  |0,n,hr,_,_=>absurd hr.pos (by omega)
  | f + 1, n, hr, hS, he => by
    intro p hp
    have hlt:=hr.lt hv
    by_cases hl:(nth t.nd n).lf=true
    · rw [aBA hr.pos hl] at he
      injection he with h1 h2
      rw [← h1]; exact .inl hp
    have hl:(nth t.nd n).lf=false:=by simpa using hl
    have hin:=yX hv hlt hl
    by_cases h1:dX (cat [w,(nth t.nd n).sf]) o.i≠0
    · rw [aEC hr.pos hl h1] at he
      injection he with _ h2; injection h2 with _ h3; exact (h1 h3).elim
    by_cases h2:(ans o (cat [w,(nth t.nd n).sf])).isSome=true
    · by_cases h3:lxH (nth t.nd n).ou (((ans o (cat [w,(nth t.nd n).sf])).getD []).drop w.length)
      · rw [aF4 hr.pos hl h1 h2 h3] at he
        have hb:((ans o (cat [w,(nth t.nd n).sf])).getD []).drop w.length=bI m (oR m m.s w) (nth t.nd n).sf:=qW hx h2
        have hki:lxN (nth t.nd n).ou (((ans o (cat [w,(nth t.nd n).sf])).getD []).drop w.length) < (nth t.nd n).kd.length:=by have:=h3.1; have:=hin.len; omega
        have hm:nth (nth t.nd n).kd (lxN (nth t.nd n).ou (((ans o (cat [w,(nth t.nd n).sf])).getD []).drop w.length))∈(nth t.nd n).kd:=bF hki
        have h0:=(hin.kr _ hm).1
        cases hp with
        |leaf h=>simp only [Int.toNat_natCast] at h; rw [hl] at h; cases h
        | kid _ ha hb2 =>
          simp only [Int.toNat_natCast] at ha
          obtain ⟨j,hj,rfl⟩:=dP ha
          by_cases ej:j=lxN (nth t.nd n).ou (((ans o (cat [w,(nth t.nd n).sf])).getD []).drop w.length)
          · rw [ej] at hb2
            have hS':=hS.kid (by simpa using hl) (by simpa using hm)
            refine yZ hv hx hsw (hr.step hm h0) ?_ he p ?_
            · rw [Int.toNat_of_nonneg h0]; exact hS'
            · rw [Int.toNat_of_nonneg h0]; exact hb2
          · refine .inr ⟨(nth t.nd n).sf,hsw n hlt,?_⟩
            have e1:=hS (n:Int) (.refl _) (by simpa using hl) j (by simpa using hj) p (by simpa using hb2)
            simp only [Int.toNat_natCast] at e1
            rw [e1,← hb]
            intro e2
            have e3:=aIl h3
            exact ej (aNr hin.srt (by have:=hin.len; omega) h3.1 (by rw [e3]; exact e2.symm))
      · rw [aGw hr.pos hl h1 h2 h3] at he
        injection he with h4 _
        rw [← h4]; exact .inl hp
    · rw [aDG hr.pos hl h1 (by simpa using h2)] at he
      injection he with _ h4; injection h4 with h5 _
      have:=hin.s0
      have z:(cat [w,(nth t.nd n).sf]).length=0:=by rw [h5]; rfl
      simp [cat] at z
      rw [z.2] at this; simp at this
def aHc (m:M) (l:List (List Int)):Prop:= ∀ u∈l,∀ v∈l,u≠v→Apt m u v
theorem aCd {m:M} {l k:List (List Int)} {w:List Int} (h:aHc m l) (hk: ∀ u∈k,u∈l∨u=w) (hw: ∀ u∈l,Apt m w u):aHc m k:=by
  intro u hu v hv hne
  rcases hk u hu with e|e <;> rcases hk v hv with f|f
  · exact h u e v f hne
  · rw [f]; exact (hw u e).symm
  · rw [e]; exact hw v f
  · exact (hne (e.trans f.symm)).elim
structure Cas (l:Ts) (o:Ob) (m:M):Prop where
  ho:aT4 o=0
  hm:dU m=0
  hx:aFP m o=true
  hl:tvE l=0
  hi:l.i=m.i
  oi:o.i=m.i
  sd:Snd l.t m 0
  ap:aHc m (lvs l.t)
section
variable {l:Ts} {o:Ob} {m:M}
theorem Cas.inw (h:Cas l o m): ∀ w∈lvs l.t,dX w m.i=0:=fun w hw=>by rw [← h.hi]; exact (aA6 h.hl hw).2
theorem Cas.sft (h:Cas l o m) {w:List Int} {a:Int} (hs:bW l.t o w=(a,[],0)) {p:List Int} (hp:p∈lvs l.t):Bel l.t a p∨Apt m w p:=by
  obtain ⟨_,_,hv,hq,_,_⟩:=aBJ h.hl
  rw [rK hv] at hp
  obtain ⟨k,hk,hlf,rfl⟩:=aD4 ((eV _ _).1 hp)
  unfold bW at hs
  rw [if_neg (by omega)] at hs
  split at hs
  · rename_i q; injection hs with _ h2; injection h2 with _ h3; exact (q h3).elim
  · exact yZ hv h.hx (fun k hk=>pH (by rw [← h.hi]; exact (hq k hk).2)) (rk0 hv) h.sd hs _ (aHI hv hk hlf)
theorem vI {t:Dt} {w:List Int} (h1:(bW t o w).2.2=0) (h2:(bW t o w).2.1=[]):bW t o w=((bW t o w).1,[],0):=by
  rw [← h1,← h2]
theorem Cas.step (h : Cas l o m) (he : (tst l o).2.2.2 = 0) : (∀ w ∈ lvs (tst l o).1.t, dX w m.i = 0) ∧ aHc m (lvs (tst l o).1.t) := by
  rcases aFu l o with ⟨h1,_⟩|⟨_,_,_,g1,g2,g3,k,hk,_,gi,g4,g5⟩
  · rw [h1]; exact ⟨h.inw,h.ap⟩
  · obtain ⟨_, _, hv, hq, _, _⟩ := aBJ h.hl
    obtain ⟨d1,d2,_⟩:=aIJ g4
    obtain ⟨_,n1,v1,x1,f1,_⟩:=aKZ g4
    have hnd:=aKJ (l:=l) (o:=o) (by omega) (by omega) (by omega) hk
    have hlf:(nth l.t.nd (bW l.t o (nth (exs l) k)).1.toNat).lf=false:=(aFV n1).2.2
    have hw:=aGs h.hl (bF hk)
    have hmem: ∀ u∈lvs (tst l o).1.t,u∈lvs l.t∨u=nth (exs l) k:=by
      intro u hu
      rw [g5] at hu
      dsimp only at hu
      rw [rK d1,d2,eV,List.mem_append,List.mem_singleton] at hu
      rw [rK hv]; exact hu
    have hwc:dX (nth (exs l) k) m.i=0:=by
      have q:=qB (aDN f1).1
      have r:=iW h.hm
      exact xX ⟨r.1,by omega⟩ q.1 fun j hj=>by rw [← h.hi]; exact hw.2.2 j hj
    have hq2:(bW l.t o (nth (exs l) k)).2.1=[]:=by
      have z:=vL (l:=qra l o) g3
      by_cases e:(bW l.t o (nth (exs l) k)).2.1=[]
      · exact e
      · exfalso
        have:(bW l.t o (nth (exs l) k)).2.1∈qra l o:=List.mem_flatMap.2 ⟨_,bF hk,by unfold qr1; rw [if_pos (List.length_pos_iff.2 e)]; simp⟩
        rw [z] at this; cases this
    refine ⟨fun u hu=>?_,aCd h.ap hmem fun u hu=>?_⟩
    · rcases hmem u hu with e|e
      · exact h.inw u e
      · rw [e]; exact hwc
    · rcases h.sft (vI hnd.1 hq2) hu with e | e
      · -- below the node where the word ends:another output
        have hin:=yX hv (show (bW l.t o (nth (exs l) k)).1.toNat < l.t.nd.length by omega) hlf
        cases e with
        |leaf z=>rw [hlf] at z; cases z
        | kid _ ha hb =>
          obtain ⟨j,hj,rfl⟩:=dP ha
          have hk2:=hnd.2.2.2 hlf
          refine ⟨(nth l.t.nd (bW l.t o (nth (exs l) k)).1.toNat).sf,pH (by rw [← h.hi]; exact (hq _ (by omega)).2),?_⟩
          have hrea : Rea l.t 0 (bW l.t o (nth (exs l) k)).1 := by
            have key: ∀ (s:Nat) (P:List Int),Plc l.t P→s < P.length→Rea l.t 0 (nth P s):=by
              intro s P hP
              induction s using Nat.strongRecOn with
              | _ s ih =>
                intro hs
                by_cases e0:s=0
                · subst e0; rw [hP.head.1]; exact .refl _
                · obtain ⟨i,hi,ha⟩:=hP.1.par (s:=s) (by omega) hs
                  have r:=hP.1.rng (kH hv) _ (bF (show i < P.length by omega))
                  have hil:(nth l.t.nd (nth P i).toNat).lf=false:=by
                    by_cases z:(nth l.t.nd (nth P i).toNat).lf=true
                    · have:=(aGg hv (show (nth P i).toNat < l.t.nd.length by omega) z).kd
                      rw [this] at ha; cases ha
                    · simpa using z
                  have tr: ∀ {a b c:Int},Rea l.t a b→(nth l.t.nd b.toNat).lf=false→c∈(nth l.t.nd b.toNat).kd→Rea l.t a c:=by
                    intro a b c h1
                    induction h1 with
                    |refl n=>intro h2 h3; exact .kid h2 h3 (.refl _)
                    |kid g1 g2 _ ih2=>intro h2 h3; exact .kid g1 g2 (ih2 h2 h3)
                  exact tr (ih i hi (by omega)) hil ha
            obtain ⟨P,hP⟩:=kC hv
            obtain ⟨s,hs,e⟩:=hP.all (kH hv) hnd.2.1 hnd.2.2.1
            rw [← e]; exact key s P hP hs
          have e1:=h.sd _ hrea hlf j hj u hb
          rw [e1]
          intro e2
          have e3:bho o (nth (exs l) k) (nth l.t.nd (bW l.t o (nth (exs l) k)).1.toNat).sf=_:=qW h.hx hk2.1
          rw [e2] at e3
          have e4:=aDC hin.srt (show j < (nth l.t.nd (bW l.t o (nth (exs l) k)).1.toNat).ou.length by have:=hin.len; omega) e3.symm
          exact hk2.2 e4.2
      · exact e
theorem Cas.split (h : Cas l o m) {s : Spl} (he : (rfR l o s).2.2 = 0) : (∀ w ∈ lvs (rfR l o s).1.t, dX w m.i = 0) ∧ aHc m (lvs (rfR l o s).1.t) := by
  rcases aE5 l o s with ⟨h1,_⟩|⟨_,_,g1,g2,g3,g4,g5,g6,g7,g8⟩
  · rw [h1]; exact ⟨h.inw,h.ap⟩
  · obtain ⟨_,_,hv,hq,_,_⟩:=aBJ h.hl
    obtain ⟨d1,d2,_⟩:=aFK g7
    obtain ⟨_,n1,_,_,v1,f1,_,hne,_⟩:=aK9 g7
    obtain ⟨p1,p2,p3,_,p5⟩:=aNz (s:=s) (i:=l.i) (by omega)
    have hmem: ∀ u∈lvs (rfR l o s).1.t,u∈lvs l.t∨u=rfW s:=by
      intro u hu
      rw [g8] at hu
      unfold rfT at hu
      dsimp only at hu
      rw [rK d1,d2,eV,List.mem_append,List.mem_singleton] at hu
      rw [rK hv]; exact hu
    have hwc:dX (rfW s) m.i=0:=by
      have q:=qB (aDN f1).1
      have r:=iW h.hm
      have e:rfW s=s.p++[s.a]:=by simp [rfW,cat]
      refine xX ⟨r.1,by omega⟩ q.1 ?_
      rw [e,← h.hi]
      exact InW.snoc (pH p1) p2 p3
    have q4:(bW l.t o (rfW s)).2.1=[]:=List.length_eq_zero_iff.1 g4
    have m0:=List.length_eq_zero_iff.1 g6
    unfold rfB at m0
    rw [aJH] at m0
    have k1:(ans o (cat [(rfN l o s).ac,s.x])).isSome=true:=by
      by_cases e:(ans o (cat [(rfN l o s).ac,s.x])).isSome=true
      · exact e
      · rw [if_neg e] at m0; simp at m0
    have k2:(ans o (cat [rfW s,s.x])).isSome=true:=by
      by_cases e:(ans o (cat [rfW s,s.x])).isSome=true
      · exact e
      · rw [if_neg e] at m0; simp at m0
    refine ⟨fun u hu=>?_,aCd h.ap hmem fun u hu=>?_⟩
    · rcases hmem u hu with e|e
      · exact h.inw u e
      · rw [e]; exact hwc
    · rcases h.sft (vI g3 q4) hu with e|e
      · cases e with
        | leaf z =>
          refine ⟨s.x,pH (by rw [← h.hi]; exact p5),?_⟩
          have e1:=qW h.hx k1
          have e2:=qW h.hx k2
          intro e3
          rw [e1,e2] at hne
          exact hne e3.symm
        |kid z=>have:(rfN l o s).lf=false:=z; rw [g5] at this; cases this
      · exact e
end
end Go.Proofs.YtilfohjlglefjaaGreat
namespace Go.Proofs.YtilfohjlglefjaaGreat
open Go
inductive Rt (t:Dt) (n:Int):Int→Prop where
  |refl:Rt t n n
  |step {b c:Int} (h:Rt t n b) (hb:0≤b∧b < t.nd.length) (hc:c∈(nth t.nd b.toNat).kd):Rt t n c
theorem Rt.head {t:Dt} {n a b:Int} (hn:0≤n∧n < t.nd.length) (ha:a∈(nth t.nd n.toNat).kd) (h:Rt t a b):Rt t n b:=by
  induction h with
  |refl=>exact .step .refl hn ha
  |step _ hb hc ih=>exact .step ih hb hc
def lb (t:Dt):Nat→Int→List Int
  |0,_=>[]
  |f+1,n=>if (nth t.nd n.toNat).lf=true then [n] else (nth t.nd n.toNat).kd.flatMap (lb t f)
section
variable {t:Dt} {P:List Int}
end
structure Cse where
  m:M
  o:Ob
  l:Ts
  s:Spl
end Go.Proofs.YtilfohjlglefjaaGreat
namespace Go.Proofs.YtilfohjlglefjaaGreat
open Go
instance:Inhabited M:=⟨⟨0,0,[],[]⟩⟩
def lK (a b:M):Int:=if dU a≠0 then dU a else if dU b≠0 then dU b else if a.i≠b.i then 15 else 0
theorem aMA {a b:M} (h:dU a≠0):lK a b=dU a:=if_pos h
theorem aO2 {a b:M} (h:dU a=0) (h2:dU b≠0):lK a b=dU b:=by rw [lK,if_neg (by omega),if_pos h2]
theorem aL5 {a b:M} (h:dU a=0) (h2:dU b=0) (h3:a.i≠b.i):lK a b=15:=by rw [lK,if_neg (by omega),if_neg (by omega),if_pos h3]
theorem aPA {a b:M} (h:dU a=0) (h2:dU b=0) (h3:a.i=b.i):lK a b=0:=by rw [lK,if_neg (by omega),if_neg (by omega),if_neg (by omega)]
end Go.Proofs.YtilfohjlglefjaaGreat
namespace Go.Proofs.YtilfohjlglefjaaGreat
open Go
theorem eI {H:aF} {i:Nat} {B:Blk} {p:Nat→Prop} {f:Nat→Nat} {g:Nat→Blk} (h: ∀ j,p j→H (f j)=g j) (hi: ∀ j,f j≠i): ∀ j,p j→upd H i B (f j)=g j:=
  fun j hj=>(aG _ _ (hi j)).trans (h j hj)
theorem aIo {H:aF} {n c:Nat} {B:Blk} {g:Nat→Blk} (h: ∀ j,j < n→H (65536*(j+1)+c)=g j) (hB:B=g n): ∀ j,j < n+1→upd H (65536*(n+1)+c) B (65536*(j+1)+c)=g j:=by
  intro j hj
  by_cases e:j=n
  · subst e; rw [← hB]; exact aE _ _ _
  · exact (aG _ _ (by omega)).trans (h j (by omega))
theorem aGt {H:aF} {n c:Nat} {B C:Blk} (h: ∀ j,n≤j→H (65536*(j+1)+c)=C): ∀ j,n+1≤j→upd H (65536*(n+1)+c) B (65536*(j+1)+c)=C:=
  fun j hj=>(aG _ _ (by omega)).trans (h j (by omega))
theorem aDJ {H:aF} {n c s:Nat} {B:Blk} {g g':Nat→Blk} (h: ∀ j,j < n→H (65536*(j+1)+c)=g j) (hB:B=g' s) (hg: ∀ j,j≠s→g j=g' j): ∀ j,j < n→upd H (65536*(s+1)+c) B (65536*(j+1)+c)=g' j:=by
  intro j hj
  by_cases e:j=s
  · subst e; rw [← hB]; exact aE _ _ _
  · exact (aG _ _ (by omega)).trans ((h j hj).trans (hg j e))
def snR (L:List Pr) (n j:Nat):List Bool:=(List.range n).map fun (t:Nat)=>knK L (j:Int) (t:Int) L.length
theorem bE (L:List Pr) (n j:Nat):(snR L n j).length=n:=by simp [snR]
theorem aHX {L:List Pr} {n j t:Nat} (h:t < n):nth (snR L n j) t=knK L j t L.length:=by
  rw [← aM (by rw [bE]; exact h)]; simp [snR]
theorem aKa (n j:Nat):snR [] n j=List.replicate n false:=by
  apply List.ext_getElem <;> simp [snR,knK]
theorem aBB {L:List Pr} {p:Pr} {u v:Int}:knK (L++[p]) u v (L++[p]).length=(knK L u v L.length||decide (p.s=u∧p.t=v)):=by
  rw [Bool.eq_iff_iff,Bool.or_eq_true,jA,jA,decide_eq_true_eq]
  constructor
  · rintro ⟨j,h1,h2⟩
    rw [List.length_append,List.length_singleton] at h1
    by_cases e:j < L.length
    · rw [bD e] at h2; exact .inl ⟨j,e,h2⟩
    · have e2:j=L.length:=by omega
      subst e2
      have q:nth (L++[p]) (L.length+0)=nth [p] 0:=cO
      rw [Nat.add_zero,eA] at q
      rw [q] at h2; exact .inr h2
  · rintro (⟨j,h1,h2⟩|h)
    · exact ⟨j,by rw [List.length_append]; omega,by rw [bD h1]; exact h2⟩
    · refine ⟨L.length,by simp,?_⟩
      have q:nth (L++[p]) (L.length+0)=nth [p] 0:=cO
      rw [Nat.add_zero,eA] at q
      rw [q]; exact h
theorem aEb {L:List Pr} {p:Pr} {n:Nat} (h0:0≤p.s) (h1:0≤p.t) (h2:p.t < n):(snR L n p.s.toNat).set p.t.toNat true=snR (L++[p]) n p.s.toNat:=by
  apply List.ext_getElem
  · simp [snR]
  · intro i g1 g2
    simp only [snR,List.getElem_set,List.getElem_map,List.getElem_range,aBB]
    split
    · rename_i e; simp; right; omega
    · rename_i e
      have:decide (p.s=((p.s.toNat:Nat):Int)∧p.t=(i:Int))=false:=by simp; omega
      rw [this,Bool.or_false]
theorem yS {L:List Pr} {p:Pr} {n j:Nat} (h0:0≤p.s) (h:j≠p.s.toNat):snR L n j=snR (L++[p]) n j:=by
  apply List.ext_getElem
  · simp [snR]
  · intro i g1 g2
    simp only [snR,List.getElem_map,List.getElem_range,aBB]
    have:decide (p.s=((j:Nat):Int)∧p.t=(i:Int))=false:=by simp; omega
    rw [this,Bool.or_false]
def rwL (n m k:Nat):List V:=(List.range n).map fun j=>if j < k then V.ms (65536*(j+1)+29) 1 0 m else V.nilsl
abbrev c1V (v:V):List V:=[v]
theorem bC (n m k:Nat):(rwL n m k).length=n:=by simp [rwL]
theorem aAA {n m k i:Nat} (h:i < n) (h2:i < k):nth (rwL n m k) i=V.ms (65536*(i+1)+29) 1 0 m:=by
  rw [← aM (by rw [bC]; exact h)]; simp [rwL,h2]
theorem jX (n m:Nat):rwL n m 0=List.replicate n V.nilsl:=by
  apply List.ext_getElem <;> simp [rwL]
theorem lJ {n m k:Nat}:(rwL n m k).set k (V.ms (65536*(k+1)+29) 1 0 m)=rwL n m (k+1):=by
  apply List.ext_getElem
  · simp [rwL]
  · intro i g1 g2
    simp only [rwL,List.getElem_set,List.getElem_map,List.getElem_range]
    split
    · rename_i e; subst e; simp
    · rename_i e
      by_cases q:i < k
      · simp [q,show i < k+1 by omega]
      · simp [q,show ¬ i < k+1 by omega]
theorem aGI {L:List Pr} {n:Nat} {u v:Int} (h0:0≤u) (h1:0≤v) (h2:v < n):nth (snR L n u.toNat) v.toNat=knK L u v L.length:=by
  rw [aHX (by omega),Int.toNat_of_nonneg h0,Int.toNat_of_nonneg h1]
theorem aBO {H:aF} {i:Nat} {p:Nat→Prop} {f:Nat→Nat} {g:Nat→Blk} (h: ∀ j,p j→H (f j)=g j) (hi: ∀ j,f j≠i): ∀ j,p j→jZ i H (f j)=g j:=eI h hi
def aAV (a b:M):List Int:=if lK a b≠0 then [] else (dst a b a.s b.s).getD []
def aAY (a b:M):Bool:=if lK a b≠0 then false else (dst a b a.s b.s).isSome
theorem aCK {a b:M} (h:lK a b=0):dU a=0∧dU b=0∧a.i=b.i:=by
  unfold lK at h
  split at h
  · exact absurd h (by assumption)
  · split at h
    · exact absurd h (by assumption)
    · split at h
      · exact absurd h (by decide)
      · refine ⟨by omega,by omega,by omega⟩
theorem kL {m:M} (h:dU m=0):0≤m.s∧m.s < m.nx.length:=⟨(iW h).2.2.2.2.1,(iW h).2.2.2.2.2.1⟩
end Go.Proofs.YtilfohjlglefjaaGreat
namespace Go.Proofs.YtilfohjlglefjaaGreat
open Go
instance:Inhabited TM:=⟨zTM⟩
def tmQ (a b:TM):Int:=if cR a≠0 then cR a else if cR b≠0 then cR b else if a.i≠b.i∨a.tm≠b.tm then 15 else if unE a≠0 then unE a else unE b
def tqE (a b:TM):Int:=if tmQ a b≠0 then tmQ a b else lK (unM a) (unM b)
def tqF (a b:TM):Bool:=if tmQ a b≠0 then false else aAY (unM a) (unM b)
def tqW (a b:TM):List Int:=if tmQ a b≠0 then [] else aAV (unM a) (unM b)
def tsm (t:TM):Bool:=decide (t.nx.length≤8∧t.ot.length≤8∧t.st.length≤8∧t.i≤4)
section
variable {a b:TM}
theorem aEJ (h:cR a≠0):tmQ a b=cR a:=if_pos h
theorem aD3 (h:cR a=0) (h2:cR b≠0):tmQ a b=cR b:=by unfold tmQ; rw [if_neg (by omega),if_pos h2]
theorem aDi (h:cR a=0) (h2:cR b=0) (h3:a.i≠b.i∨a.tm≠b.tm):tmQ a b=15:=by unfold tmQ; rw [if_neg (by omega),if_neg (by omega),if_pos h3]
theorem aEm (h:cR a=0) (h2:cR b=0) (h3: ¬(a.i≠b.i∨a.tm≠b.tm)) (h4:unE a≠0):tmQ a b=unE a:=by unfold tmQ; rw [if_neg (by omega),if_neg (by omega),if_neg h3,if_pos h4]
theorem aBm (h:cR a=0) (h2:cR b=0) (h3: ¬(a.i≠b.i∨a.tm≠b.tm)) (h4:unE a=0):tmQ a b=unE b:=by unfold tmQ; rw [if_neg (by omega),if_neg (by omega),if_neg h3,if_neg (by omega)]
theorem kE {e:Int} (h:tmQ a b=e) (he:e≠0):tqW a b=[]∧tqF a b=false∧tqE a b=e:=by
  subst h
  exact ⟨if_pos he,if_pos he,if_pos he⟩
theorem vX (h:tmQ a b=0):tqW a b=aAV (unM a) (unM b)∧tqF a b=aAY (unM a) (unM b)∧tqE a b=lK (unM a) (unM b):=
  ⟨if_neg (by omega),if_neg (by omega),if_neg (by omega)⟩
end
end Go.Proofs.YtilfohjlglefjaaGreat
namespace Go.Proofs.YtilfohjlglefjaaGreat
open Go Go.Proofs
theorem pP (t:TM):bB Tryz.prog 14 [(V.agg [(iV (t.i)),(iV (t.tm)),(iV (t.s)),(aB t.nx),(aB t.ot),(V.sl (List.map cSr (t.st)))])] (V.bool (tsm t)):=by
 refine pW Tryz.func14 aNs fun hB=>?_
 unfold s14
 dsimp only
 refine W_r (eT (i:=1) (n:=0) (m:=6) (cs:=[(iV (t.i)),(iV (t.tm)),(iV (t.s)),(aB t.nx),(aB t.ot),(V.sl (List.map cSr (t.st)))]) rfl (congrArg Blk.ver rfl) rfl rfl rfl (aA rfl (R_e (W_r (aP rfl rfl (aK rfl rfl rfl rfl (bN rfl ?_)))))))
 refine xO rfl rfl (aA rfl ?_)
 refine aV 5 (fun T H=>T 1=(V.mp 1 1 0 0)∧T 12=(V.bool (decide ((((t.nx.length:Nat):Int)≤(8:Int))∧(((t.ot.length:Nat):Int)≤(8:Int)))))∧H 1=(bk 1 29 6 [[(iV (t.i)),(iV (t.tm)),(iV (t.s)),(aB t.nx),(aB t.ot),(V.sl (List.map cSr (t.st)))]])∧True) ?_ ?_
 ·
  by_cases g1:((t.nx.length:Nat):Int)≤(8:Int)
  ·
   refine aD (edT g1 rfl) (aP rfl rfl (aD (edT g1 rfl) (aK rfl rfl rfl rfl (aD (edT g1 rfl) (bN rfl (aD (edT g1 rfl) (xO rfl rfl ?_)))))))
   refine aX (edT g1 rfl) rfl ?_
   exact ⟨rfl,(iN g1),rfl,trivial⟩
  ·
   refine G_n (edF g1 rfl) (G_n (edF g1 rfl) (G_n (edF g1 rfl) (G_n (edF g1 rfl) (aW (edF g1 rfl) rfl ?_))))
   exact ⟨rfl,(iM g1),rfl,trivial⟩
 intro T H ⟨t1,t12,h1,_⟩
 refine aA t12 ?_
 refine aV 5 (fun T H=>T 1=(V.mp 1 1 0 0)∧T 18=(V.bool (decide (((((t.nx.length:Nat):Int)≤(8:Int))∧(((t.ot.length:Nat):Int)≤(8:Int)))∧(((t.st.length:Nat):Int)≤(8:Int)))))∧H 1=(bk 1 29 6 [[(iV (t.i)),(iV (t.tm)),(iV (t.s)),(aB t.nx),(aB t.ot),(V.sl (List.map cSr (t.st)))]])∧True) ?_ ?_
 ·
  by_cases g2:(((t.nx.length:Nat):Int)≤(8:Int))∧(((t.ot.length:Nat):Int)≤(8:Int))
  ·
   refine aD (edT g2 rfl) (aP t1 h1 (aD (edT g2 rfl) (aK rfl h1 rfl rfl (aD (edT g2 rfl) (bN rfl (aD (edT g2 rfl) (xO rfl rfl ?_)))))))
   refine aX (edT g2 rfl) rfl ?_
   exact ⟨t1,(iN g2),h1,trivial⟩
  ·
   refine G_n (edF g2 rfl) (G_n (edF g2 rfl) (G_n (edF g2 rfl) (G_n (edF g2 rfl) (aW (edF g2 rfl) rfl ?_))))
   exact ⟨t1,(iM g2),h1,trivial⟩
 intro T H ⟨t1,t18,h1,_⟩
 refine aA t18 ?_
 refine aV 4 (fun T H=>T 23=(V.bool (decide ((((((t.nx.length:Nat):Int)≤(8:Int))∧(((t.ot.length:Nat):Int)≤(8:Int)))∧(((t.st.length:Nat):Int)≤(8:Int)))∧((t.i)≤(4:Int)))))∧H 1=(bk 1 29 6 [[(iV (t.i)),(iV (t.tm)),(iV (t.s)),(aB t.nx),(aB t.ot),(V.sl (List.map cSr (t.st)))]])∧True) ?_ ?_
 ·
  by_cases g3:((((t.nx.length:Nat):Int)≤(8:Int))∧(((t.ot.length:Nat):Int)≤(8:Int)))∧(((t.st.length:Nat):Int)≤(8:Int))
  ·
   refine aD (edT g3 rfl) (aP t1 h1 (aD (edT g3 rfl) (aK rfl h1 rfl rfl (aD (edT g3 rfl) (xO rfl rfl (aX (edT g3 rfl) rfl ?_))))))
   exact ⟨(iN g3),h1,trivial⟩
  ·
   refine G_n (edF g3 rfl) (G_n (edF g3 rfl) (G_n (edF g3 rfl) (aW (edF g3 rfl) rfl ?_)))
   exact ⟨(iM g3),h1,trivial⟩
 intro T H ⟨t23,h1,_⟩
 refine aA t23 (R_e (bK ?_))
 refine bH (@rfl V (V.bool (decide ((((((t.nx.length:Nat):Int)≤(8:Int))∧(((t.ot.length:Nat):Int)≤(8:Int)))∧(((t.st.length:Nat):Int)≤(8:Int)))∧((t.i)≤(4:Int)))))) (bU ?_)
 · unfold tsm; exact decide_eq_decide.2 (by omega)
theorem aFo (t:TM) (s:Nat) (h1:1≤t.i∧t.i≤64∧0≤t.tm∧t.tm≤4) (hs:s < t.nx.length∧s < t.ot.length∧s < t.st.length):bB Tryz.prog 63 [(V.agg [(iV (t.i)),(iV (t.tm)),(iV (t.s)),(aB t.nx),(aB t.ot),(V.sl (List.map cSr (t.st)))]),(iV ((s:Nat):Int))] (iV (rR t s)):=by
 refine pW Tryz.func63 aFR fun hB=>?_
 unfold s63
 dsimp only
 refine W_r (eT (i:=2) (n:=0) (m:=6) (cs:=[(iV (t.i)),(iV (t.tm)),(iV (t.s)),(aB t.nx),(aB t.ot),(V.sl (List.map cSr (t.st)))]) rfl (congrArg Blk.ver rfl) rfl rfl rfl (aA rfl (R_e (W_r (aP rfl rfl (aK rfl rfl rfl rfl (aP rfl rfl ?_)))))))
 refine aK rfl rfl rfl rfl (jT rfl rfl (by omega) (by omega) (aA rfl (R_e (aC (W_r (aP rfl rfl (aK rfl rfl rfl rfl ?_)))))))
 refine aA rfl (bL (i:=s) (@rfl V (aB t.nx)) (@rfl V (iV ((s:Nat):Int))) (by omega) rfl (aJ rfl rfl (bN rfl (aA rfl (dQ rfl rfl (aA rfl ?_))))))
 refine aV 9 (fun T H=>T 1=(iV ((s:Nat):Int))∧T 2=(V.mp 2 1 0 0)∧T 5=(iV ((t.i)+(t.tm)))∧T 30=(V.bool (decide ((((((nth (t.nx) (s))).length:Nat):Int)≠((t.i)+(t.tm)))∨(((((nth (t.ot) (s))).length:Nat):Int)≠((t.i)+(t.tm))))))∧H 2=(bk 1 29 6 [[(iV (t.i)),(iV (t.tm)),(iV (t.s)),(aB t.nx),(aB t.ot),(V.sl (List.map cSr (t.st)))]])∧H 7=(⟨0,false,false,0,0,[]⟩:Blk)∧True) ?_ ?_
 ·
  by_cases g1:((((nth (t.nx) (s))).length:Nat):Int)≠((t.i)+(t.tm))
  ·
   refine G_n (edT g1 rfl) (G_n (edT g1 rfl) (G_n (edT g1 rfl) (G_n (edT g1 rfl) (G_n (edT g1 rfl) (G_n (edT g1 rfl) (G_n (edT g1 rfl) (G_n (edT g1 rfl) ?_)))))))
   refine aX (edT g1 rfl) rfl ?_
   exact ⟨rfl,rfl,rfl,(bO g1),rfl,rfl,trivial⟩
  ·
   refine aD (edF g1 rfl) (aP rfl rfl (aD (edF g1 rfl) (aK rfl rfl rfl rfl (aD (edF g1 rfl) (aA rfl (aD (edF g1 rfl) (bL (i:=s) (@rfl V (aB t.ot)) (@rfl V (iV ((s:Nat):Int))) (by omega) rfl ?_)))))))
   refine aD (edF g1 rfl) (aJ rfl rfl (aD (edF g1 rfl) (bN rfl (aD (edF g1 rfl) (aA rfl (aD (edF g1 rfl) (dQ rfl rfl ?_)))))))
   refine aW (edF g1 rfl) rfl ?_
   exact ⟨rfl,rfl,rfl,(bP g1),rfl,rfl,trivial⟩
 intro T H ⟨t1,t2,t5,t30,h2,h7,_⟩
 refine aA t30 ?_
 refine aV 9 (fun T H=>T 1=(iV ((s:Nat):Int))∧T 2=(V.mp 2 1 0 0)∧T 5=(iV ((t.i)+(t.tm)))∧T 40=(V.bool (decide (((((((nth (t.nx) (s))).length:Nat):Int)≠((t.i)+(t.tm)))∨(((((nth (t.ot) (s))).length:Nat):Int)≠((t.i)+(t.tm))))∨(((((nth (t.st) (s))).length:Nat):Int)≠((t.i)+(t.tm))))))∧H 2=(bk 1 29 6 [[(iV (t.i)),(iV (t.tm)),(iV (t.s)),(aB t.nx),(aB t.ot),(V.sl (List.map cSr (t.st)))]])∧H 7=(⟨0,false,false,0,0,[]⟩:Blk)∧True) ?_ ?_
 ·
  by_cases g2:(((((nth (t.nx) (s))).length:Nat):Int)≠((t.i)+(t.tm)))∨(((((nth (t.ot) (s))).length:Nat):Int)≠((t.i)+(t.tm)))
  ·
   refine G_n (edT g2 rfl) (G_n (edT g2 rfl) (G_n (edT g2 rfl) (G_n (edT g2 rfl) (G_n (edT g2 rfl) (G_n (edT g2 rfl) (G_n (edT g2 rfl) (G_n (edT g2 rfl) ?_)))))))
   refine aX (edT g2 rfl) rfl ?_
   exact ⟨t1,t2,t5,(bO g2),h2,h7,trivial⟩
  ·
   refine aD (edF g2 rfl) (aP t2 h2 (aD (edF g2 rfl) (aK rfl h2 rfl rfl (aD (edF g2 rfl) (aA t1 (aD (edF g2 rfl) (bL (i:=s) (@rfl V (V.sl (List.map cSr (t.st)))) (@rfl V (iV ((s:Nat):Int))) (by omega) rfl ?_)))))))
   refine aD (edF g2 rfl) (aJ rfl rfl (aD (edF g2 rfl) (bN rfl (aD (edF g2 rfl) (aA t5 (aD (edF g2 rfl) (dQ rfl rfl ?_)))))))
   refine aW (edF g2 rfl) rfl ?_
   exact ⟨t1,t2,t5,(bP g2),h2,h7,trivial⟩
 intro T H ⟨t1,t2,t5,t40,h2,h7,_⟩
 refine R_e ?_
 refine aO t40 (fun c3=>?_) fun c3=>?_
 ·
  refine aC (W_r (aA rfl (R_e (aU ?_))))
  refine bH (@rfl V (iV (1:Int))) (aQ ?_)
  · rw [rR,if_pos (by omega)]
 refine aH (aC (W_r (aA t5 (aA rfl (R_e (aI fun Q4 n4 x4 y4 z4=>?_))))))
 refine cW (fun mm T H=> ∃ (i:Nat) (v7:Nat),mm=(t.i+t.tm).toNat - i∧T 1=(iV ((s:Nat):Int))∧T 2=(V.mp 2 1 0 0)∧T 41=(iV ((t.i)+(t.tm)))∧T 42=(iV ((i:Nat):Int))∧H 2=(bk 1 29 6 [[(iV (t.i)),(iV (t.tm)),(iV (t.s)),(aB t.nx),(aB t.ot),(V.sl (List.map cSr (t.st)))]])∧(H 7).ver=v7∧(i≤(t.i+t.tm).toNat)∧(((nth t.nx s).length:Int)=t.i+t.tm∧((nth t.ot s).length:Int)=t.i+t.tm∧((nth t.st s).length:Int)=t.i+t.tm)∧(rR t s=fe (mA t s) i ((t.i+t.tm).toNat - i))) ?_ ?_
 ·
  refine ⟨_,0,0,rfl,t1,t2,rfl,(Eq.trans (@rfl V (iV (0:Int))) rfl),h2,(congrArg Blk.ver h7),?_,?_,?_⟩
  · exact Nat.zero_le _
  · omega
  · rw [rR,if_neg (by omega)]; rfl
 intro mm T H ⟨i,v7,hmm,t1,t2,t41,t42,h2,h7,hi,hl,hr⟩ Q5 p15 p25 p35
 unfold aKS
 refine W_r (bR t42 t41 (R_e ?_))
 refine aO rfl (fun c6=>?_) fun c6=>?_
 ·
  refine aH (aI fun Q7 n7 x7 y7 z7=>(W_r (aA t42 (aA rfl (R_e (W_r (aP t2 h2 ?_)))))))
  refine aK rfl h2 rfl rfl (aA t1 (bL (i:=s) (@rfl V (V.sl (List.map cSr (t.st)))) (@rfl V (iV ((s:Nat):Int))) (by omega) rfl (aJ rfl rfl (aA rfl (bL (i:=i) (@rfl V (V.sl (List.map cSg ((nth (t.st) (s)))))) (@rfl V (iV ((i:Nat):Int))) (by omega) rfl (aJ rfl rfl (cK (i:=7) (n:=v7) (m:=2) rfl h7 rfl ?_)))))))
  refine mM rfl rfl rfl rfl rfl rfl rfl rfl rfl (R_e (tS fun Q8 n8 x8 y8 z8=>?_))
  refine hY (fun T H=>T 1=(iV ((s:Nat):Int))∧T 2=(V.mp 2 1 0 0)∧T 7=(V.mp 7 (v7+1) 0 0)∧T 41=(iV ((t.i)+(t.tm)))∧T 42=(iV ((i:Nat):Int))∧T 53=(V.bool (decide ((((((nth ((nth (t.nx) (s))) (i))) < (0:Int))∨(((t.nx.length:Nat):Int)≤((nth ((nth (t.nx) (s))) (i)))))∨(((nth ((nth (t.ot) (s))) (i))) < (0:Int)))∨((1048576:Int) < ((nth ((nth (t.ot) (s))) (i)))))))∧H 2=(bk 1 29 6 [[(iV (t.i)),(iV (t.tm)),(iV (t.s)),(aB t.nx),(aB t.ot),(V.sl (List.map cSr (t.st)))]])∧H 7=(bk (v7+1) 73 2 [[(iV (((nth ((nth (t.st) (s))) (i))).1)),(iV (((nth ((nth (t.st) (s))) (i))).2))]])∧True) ?_ ?_
  ·
   refine aP t2 h2 (aK rfl h2 rfl rfl (aA t1 (bL (i:=s) (@rfl V (aB t.nx)) (@rfl V (iV ((s:Nat):Int))) (by omega) rfl (aJ rfl rfl (aA rfl (bL (i:=i) (@rfl V (aS ((nth (t.nx) (s))))) (@rfl V (iV ((i:Nat):Int))) (by omega) rfl (aJ rfl rfl ?_)))))))
   refine bR rfl rfl (aA rfl ?_)
   refine aV 13 (fun T H=>T 1=(iV ((s:Nat):Int))∧T 2=(V.mp 2 1 0 0)∧T 6=(iV ((i:Nat):Int))∧T 7=(V.mp 7 (v7+1) 0 0)∧T 41=(iV ((t.i)+(t.tm)))∧T 42=(iV ((i:Nat):Int))∧T 76=(V.bool (decide ((((nth ((nth (t.nx) (s))) (i))) < (0:Int))∨(((t.nx.length:Nat):Int)≤((nth ((nth (t.nx) (s))) (i)))))))∧H 2=(bk 1 29 6 [[(iV (t.i)),(iV (t.tm)),(iV (t.s)),(aB t.nx),(aB t.ot),(V.sl (List.map cSr (t.st)))]])∧H 7=(bk (v7+1) 73 2 [[(iV (((nth ((nth (t.st) (s))) (i))).1)),(iV (((nth ((nth (t.st) (s))) (i))).2))]])∧True) ?_ ?_
   ·
    by_cases g9:((nth ((nth (t.nx) (s))) (i))) < (0:Int)
    ·
     refine G_n (edT g9 rfl) (G_n (edT g9 rfl) (G_n (edT g9 rfl) (G_n (edT g9 rfl) (G_n (edT g9 rfl) (G_n (edT g9 rfl) (G_n (edT g9 rfl) (G_n (edT g9 rfl) ?_)))))))
     refine G_n (edT g9 rfl) (G_n (edT g9 rfl) (G_n (edT g9 rfl) (G_n (edT g9 rfl) (aX (edT g9 rfl) rfl ?_))))
     exact ⟨t1,t2,rfl,rfl,t41,t42,(bO g9),h2,rfl,trivial⟩
    ·
     refine aD (edF g9 rfl) (aP t2 h2 (aD (edF g9 rfl) (aK rfl h2 rfl rfl (aD (edF g9 rfl) (aA t1 (aD (edF g9 rfl) (bL (i:=s) (@rfl V (aB t.nx)) (@rfl V (iV ((s:Nat):Int))) (by omega) rfl ?_)))))))
     refine aD (edF g9 rfl) (aJ rfl rfl (aD (edF g9 rfl) (aA rfl (aD (edF g9 rfl) (bL (i:=i) (@rfl V (aS ((nth (t.nx) (s))))) (@rfl V (iV ((i:Nat):Int))) (by omega) rfl (aD (edF g9 rfl) (aJ rfl rfl ?_)))))))
     refine aD (edF g9 rfl) (aP t2 h2 (aD (edF g9 rfl) (aK rfl h2 rfl rfl (aD (edF g9 rfl) (bN rfl (aD (edF g9 rfl) (jL rfl rfl ?_)))))))
     refine aW (edF g9 rfl) rfl ?_
     exact ⟨t1,t2,rfl,rfl,t41,t42,(bP g9),h2,rfl,trivial⟩
   intro T H ⟨t1,t2,t6,t7,t41,t42,t76,h2,h7,_⟩
   refine aA t76 ?_
   refine aV 10 (fun T H=>T 1=(iV ((s:Nat):Int))∧T 2=(V.mp 2 1 0 0)∧T 6=(iV ((i:Nat):Int))∧T 7=(V.mp 7 (v7+1) 0 0)∧T 41=(iV ((t.i)+(t.tm)))∧T 42=(iV ((i:Nat):Int))∧T 87=(V.bool (decide (((((nth ((nth (t.nx) (s))) (i))) < (0:Int))∨(((t.nx.length:Nat):Int)≤((nth ((nth (t.nx) (s))) (i)))))∨(((nth ((nth (t.ot) (s))) (i))) < (0:Int)))))∧H 2=(bk 1 29 6 [[(iV (t.i)),(iV (t.tm)),(iV (t.s)),(aB t.nx),(aB t.ot),(V.sl (List.map cSr (t.st)))]])∧H 7=(bk (v7+1) 73 2 [[(iV (((nth ((nth (t.st) (s))) (i))).1)),(iV (((nth ((nth (t.st) (s))) (i))).2))]])∧True) ?_ ?_
   ·
    by_cases g10:(((nth ((nth (t.nx) (s))) (i))) < (0:Int))∨(((t.nx.length:Nat):Int)≤((nth ((nth (t.nx) (s))) (i))))
    ·
     refine G_n (edT g10 rfl) (G_n (edT g10 rfl) (G_n (edT g10 rfl) (G_n (edT g10 rfl) (G_n (edT g10 rfl) (G_n (edT g10 rfl) (G_n (edT g10 rfl) (G_n (edT g10 rfl) ?_)))))))
     refine G_n (edT g10 rfl) (aX (edT g10 rfl) rfl ?_)
     exact ⟨t1,t2,t6,t7,t41,t42,(bO g10),h2,h7,trivial⟩
    ·
     refine aD (edF g10 rfl) (aP t2 h2 (aD (edF g10 rfl) (aK rfl h2 rfl rfl (aD (edF g10 rfl) (aA t1 (aD (edF g10 rfl) (bL (i:=s) (@rfl V (aB t.ot)) (@rfl V (iV ((s:Nat):Int))) (by omega) rfl ?_)))))))
     refine aD (edF g10 rfl) (aJ rfl rfl (aD (edF g10 rfl) (aA t6 (aD (edF g10 rfl) (bL (i:=i) (@rfl V (aS ((nth (t.ot) (s))))) (@rfl V (iV ((i:Nat):Int))) (by omega) rfl (aD (edF g10 rfl) (aJ rfl rfl ?_)))))))
     refine aD (edF g10 rfl) (bR rfl rfl (aW (edF g10 rfl) rfl ?_))
     exact ⟨t1,t2,t6,t7,t41,t42,(bP g10),h2,h7,trivial⟩
   intro T H ⟨t1,t2,t6,t7,t41,t42,t87,h2,h7,_⟩
   refine aA t87 ?_
   refine aV 10 (fun T H=>T 1=(iV ((s:Nat):Int))∧T 2=(V.mp 2 1 0 0)∧T 7=(V.mp 7 (v7+1) 0 0)∧T 41=(iV ((t.i)+(t.tm)))∧T 42=(iV ((i:Nat):Int))∧T 98=(V.bool (decide ((((((nth ((nth (t.nx) (s))) (i))) < (0:Int))∨(((t.nx.length:Nat):Int)≤((nth ((nth (t.nx) (s))) (i)))))∨(((nth ((nth (t.ot) (s))) (i))) < (0:Int)))∨((1048576:Int) < ((nth ((nth (t.ot) (s))) (i)))))))∧H 2=(bk 1 29 6 [[(iV (t.i)),(iV (t.tm)),(iV (t.s)),(aB t.nx),(aB t.ot),(V.sl (List.map cSr (t.st)))]])∧H 7=(bk (v7+1) 73 2 [[(iV (((nth ((nth (t.st) (s))) (i))).1)),(iV (((nth ((nth (t.st) (s))) (i))).2))]])∧True) ?_ ?_
   ·
    by_cases g11:((((nth ((nth (t.nx) (s))) (i))) < (0:Int))∨(((t.nx.length:Nat):Int)≤((nth ((nth (t.nx) (s))) (i)))))∨(((nth ((nth (t.ot) (s))) (i))) < (0:Int))
    ·
     refine G_n (edT g11 rfl) (G_n (edT g11 rfl) (G_n (edT g11 rfl) (G_n (edT g11 rfl) (G_n (edT g11 rfl) (G_n (edT g11 rfl) (G_n (edT g11 rfl) (G_n (edT g11 rfl) ?_)))))))
     refine G_n (edT g11 rfl) (aX (edT g11 rfl) rfl ?_)
     exact ⟨t1,t2,t7,t41,t42,(bO g11),h2,h7,trivial⟩
    ·
     refine aD (edF g11 rfl) (aP t2 h2 (aD (edF g11 rfl) (aK rfl h2 rfl rfl (aD (edF g11 rfl) (aA t1 (aD (edF g11 rfl) (bL (i:=s) (@rfl V (aB t.ot)) (@rfl V (iV ((s:Nat):Int))) (by omega) rfl ?_)))))))
     refine aD (edF g11 rfl) (aJ rfl rfl (aD (edF g11 rfl) (aA t6 (aD (edF g11 rfl) (bL (i:=i) (@rfl V (aS ((nth (t.ot) (s))))) (@rfl V (iV ((i:Nat):Int))) (by omega) rfl (aD (edF g11 rfl) (aJ rfl rfl ?_)))))))
     refine aD (edF g11 rfl) (eU rfl rfl (aW (edF g11 rfl) rfl ?_))
     exact ⟨t1,t2,t7,t41,t42,(bP g11),h2,h7,trivial⟩
   intro T H ⟨t1,t2,t7,t41,t42,t98,h2,h7,_⟩
   refine aA t98 ?_
   exact iK ⟨t1,t2,t7,t41,t42,rfl,h2,h7,trivial⟩
  intro T H ⟨t1,t2,t7,t41,t42,t53,h2,h7,_⟩
  refine fR t53 (fun c12=>?_) fun c12=>?_
  ·
   have d3:mA t s i=2:=by unfold mA; rw [if_pos (by omega)]
   refine W_r (aA rfl (R_e (bK (y8 _ _ (y7 _ _ (p25 _ _ (y4 _ _ ?_)))))))
   refine bH (@rfl V (iV (2:Int))) (aQ ?_)
   · rw [hr,gW (by rw [d3]; decide) (by omega),d3]
  refine W_r (aP t7 h7 (aK rfl h7 rfl rfl (bR rfl rfl (aA rfl ?_))))
  refine aV 6 (fun T H=>T 1=(iV ((s:Nat):Int))∧T 2=(V.mp 2 1 0 0)∧T 7=(V.mp 7 (v7+1) 0 0)∧T 41=(iV ((t.i)+(t.tm)))∧T 42=(iV ((i:Nat):Int))∧T 109=(V.bool (decide (((((nth ((nth (t.st) (s))) (i))).1) < (-1:Int))∨((t.tm)≤(((nth ((nth (t.st) (s))) (i))).1)))))∧H 2=(bk 1 29 6 [[(iV (t.i)),(iV (t.tm)),(iV (t.s)),(aB t.nx),(aB t.ot),(V.sl (List.map cSr (t.st)))]])∧H 7=(bk (v7+1) 73 2 [[(iV (((nth ((nth (t.st) (s))) (i))).1)),(iV (((nth ((nth (t.st) (s))) (i))).2))]])∧True) ?_ ?_
  ·
   by_cases g13:(((nth ((nth (t.st) (s))) (i))).1) < (-1:Int)
   ·
    refine G_n (edT g13 rfl) (G_n (edT g13 rfl) (G_n (edT g13 rfl) (G_n (edT g13 rfl) (G_n (edT g13 rfl) (aX (edT g13 rfl) rfl ?_)))))
    exact ⟨t1,t2,t7,t41,t42,(bO g13),h2,h7,trivial⟩
   ·
    refine aD (edF g13 rfl) (aP t7 h7 (aD (edF g13 rfl) (aK rfl h7 rfl rfl (aD (edF g13 rfl) (aP t2 h2 (aD (edF g13 rfl) (aK rfl h2 rfl rfl ?_)))))))
    refine aD (edF g13 rfl) (jL rfl rfl (aW (edF g13 rfl) rfl ?_))
    exact ⟨t1,t2,t7,t41,t42,(bP g13),h2,h7,trivial⟩
  intro T H ⟨t1,t2,t7,t41,t42,t109,h2,h7,_⟩
  refine aA t109 ?_
  refine aV 4 (fun T H=>T 1=(iV ((s:Nat):Int))∧T 2=(V.mp 2 1 0 0)∧T 7=(V.mp 7 (v7+1) 0 0)∧T 41=(iV ((t.i)+(t.tm)))∧T 42=(iV ((i:Nat):Int))∧T 114=(V.bool (decide ((((((nth ((nth (t.st) (s))) (i))).1) < (-1:Int))∨((t.tm)≤(((nth ((nth (t.st) (s))) (i))).1)))∨((((nth ((nth (t.st) (s))) (i))).2) < (0:Int)))))∧H 2=(bk 1 29 6 [[(iV (t.i)),(iV (t.tm)),(iV (t.s)),(aB t.nx),(aB t.ot),(V.sl (List.map cSr (t.st)))]])∧H 7=(bk (v7+1) 73 2 [[(iV (((nth ((nth (t.st) (s))) (i))).1)),(iV (((nth ((nth (t.st) (s))) (i))).2))]])∧True) ?_ ?_
  ·
   by_cases g14:((((nth ((nth (t.st) (s))) (i))).1) < (-1:Int))∨((t.tm)≤(((nth ((nth (t.st) (s))) (i))).1))
   ·
    refine G_n (edT g14 rfl) (G_n (edT g14 rfl) (G_n (edT g14 rfl) (aX (edT g14 rfl) rfl ?_)))
    exact ⟨t1,t2,t7,t41,t42,(bO g14),h2,h7,trivial⟩
   ·
    refine aD (edF g14 rfl) (aP t7 h7 (aD (edF g14 rfl) (aK rfl h7 rfl rfl (aD (edF g14 rfl) (bR rfl rfl (aW (edF g14 rfl) rfl ?_))))))
    exact ⟨t1,t2,t7,t41,t42,(bP g14),h2,h7,trivial⟩
  intro T H ⟨t1,t2,t7,t41,t42,t114,h2,h7,_⟩
  refine aA t114 ?_
  refine aV 4 (fun T H=>T 1=(iV ((s:Nat):Int))∧T 2=(V.mp 2 1 0 0)∧T 7=(V.mp 7 (v7+1) 0 0)∧T 41=(iV ((t.i)+(t.tm)))∧T 42=(iV ((i:Nat):Int))∧T 119=(V.bool (decide (((((((nth ((nth (t.st) (s))) (i))).1) < (-1:Int))∨((t.tm)≤(((nth ((nth (t.st) (s))) (i))).1)))∨((((nth ((nth (t.st) (s))) (i))).2) < (0:Int)))∨((1000:Int) < (((nth ((nth (t.st) (s))) (i))).2)))))∧H 2=(bk 1 29 6 [[(iV (t.i)),(iV (t.tm)),(iV (t.s)),(aB t.nx),(aB t.ot),(V.sl (List.map cSr (t.st)))]])∧H 7=(bk (v7+1) 73 2 [[(iV (((nth ((nth (t.st) (s))) (i))).1)),(iV (((nth ((nth (t.st) (s))) (i))).2))]])∧True) ?_ ?_
  ·
   by_cases g15:(((((nth ((nth (t.st) (s))) (i))).1) < (-1:Int))∨((t.tm)≤(((nth ((nth (t.st) (s))) (i))).1)))∨((((nth ((nth (t.st) (s))) (i))).2) < (0:Int))
   ·
    refine G_n (edT g15 rfl) (G_n (edT g15 rfl) (G_n (edT g15 rfl) (aX (edT g15 rfl) rfl ?_)))
    exact ⟨t1,t2,t7,t41,t42,(bO g15),h2,h7,trivial⟩
   ·
    refine aD (edF g15 rfl) (aP t7 h7 (aD (edF g15 rfl) (aK rfl h7 rfl rfl (aD (edF g15 rfl) (eU rfl rfl (aW (edF g15 rfl) rfl ?_))))))
    exact ⟨t1,t2,t7,t41,t42,(bP g15),h2,h7,trivial⟩
  intro T H ⟨t1,t2,t7,t41,t42,t119,h2,h7,_⟩
  refine aA t119 (R_e ?_)
  refine fR rfl (fun c16=>?_) fun c16=>?_
  ·
   have d4:mA t s i=2:=by unfold mA tSt; rw [if_neg (by omega),if_pos (by omega)]
   refine W_r (aA rfl (R_e (bK (y8 _ _ (y7 _ _ (p25 _ _ (y4 _ _ ?_)))))))
   refine bH (@rfl V (iV (2:Int))) (aQ ?_)
   · rw [hr,gW (by rw [d4]; decide) (by omega),d4]
  refine W_r (aP t7 h7 (aK rfl h7 rfl rfl (kD rfl rfl (aA rfl ?_))))
  refine aV 4 (fun T H=>T 1=(iV ((s:Nat):Int))∧T 2=(V.mp 2 1 0 0)∧T 41=(iV ((t.i)+(t.tm)))∧T 42=(iV ((i:Nat):Int))∧T 128=(V.bool (decide (((((nth ((nth (t.st) (s))) (i))).1)=(-1:Int))∧((((nth ((nth (t.st) (s))) (i))).2)≠(0:Int)))))∧H 2=(bk 1 29 6 [[(iV (t.i)),(iV (t.tm)),(iV (t.s)),(aB t.nx),(aB t.ot),(V.sl (List.map cSr (t.st)))]])∧H 7=(bk (v7+1) 73 2 [[(iV (((nth ((nth (t.st) (s))) (i))).1)),(iV (((nth ((nth (t.st) (s))) (i))).2))]])∧True) ?_ ?_
  ·
   by_cases g17:(((nth ((nth (t.st) (s))) (i))).1)=(-1:Int)
   ·
    refine aD (edT g17 rfl) (aP t7 h7 (aD (edT g17 rfl) (aK rfl h7 rfl rfl (aD (edT g17 rfl) (dQ rfl rfl (aX (edT g17 rfl) rfl ?_))))))
    exact ⟨t1,t2,t41,t42,(iN g17),h2,h7,trivial⟩
   ·
    refine G_n (edF g17 rfl) (G_n (edF g17 rfl) (G_n (edF g17 rfl) (aW (edF g17 rfl) rfl ?_)))
    exact ⟨t1,t2,t41,t42,(iM g17),h2,h7,trivial⟩
  intro T H ⟨t1,t2,t41,t42,t128,h2,h7,_⟩
  refine aA t128 (R_e ?_)
  refine fR rfl (fun c18=>?_) fun c18=>?_
  ·
   have d5:mA t s i=1:=by unfold mA tSt; rw [if_neg (by omega),if_neg (by omega),if_pos (by omega)]
   refine W_r (aA rfl (R_e (bK (y8 _ _ (y7 _ _ (p25 _ _ (y4 _ _ ?_)))))))
   refine bH (@rfl V (iV (1:Int))) (aQ ?_)
   · rw [hr,gW (by rw [d5]; decide) (by omega),d5]
  have d5:mA t s i=0:=by unfold mA tSt; rw [if_neg (by omega),if_neg (by omega),if_neg (by omega)]
  refine cX (n8 _ _ (n7 _ _ (.done (W_t (bV t42 (@rfl V (iV ((1:Nat):Int))) (by omega) (aA rfl (R_e ?_)))))))
  refine p15 _ _ _ ?_ ⟨(i+1),(v7+1),rfl,t1,t2,t41,(Eq.trans (@rfl V (iV ((i+1:Nat):Int))) (by first|rfl|simp)),h2,(congrArg Blk.ver h7),?_,?_,?_⟩
  · omega
  · omega
  · exact hl
  · rw [hr,lS d5 (by omega)]
 refine bA (p35 _ _ _ (x4 _ _ (.done (W_r (aA rfl (R_e (bK ?_)))))))
 refine bH (@rfl V (iV (0:Int))) (aQ ?_)
 · rw [hr,oW (by omega)]
theorem sY (t:TM):bB Tryz.prog 39 [(V.agg [(iV (t.i)),(iV (t.tm)),(iV (t.s)),(aB t.nx),(aB t.ot),(V.sl (List.map cSr (t.st)))])] (iV (cR t)):=by
 refine pW Tryz.func39 aHt fun hB=>?_
 unfold s39
 dsimp only
 refine W_r (eT (i:=1) (n:=0) (m:=6) (cs:=[(iV (t.i)),(iV (t.tm)),(iV (t.s)),(aB t.nx),(aB t.ot),(V.sl (List.map cSr (t.st)))]) rfl (congrArg Blk.ver rfl) rfl rfl rfl (aA rfl (R_e (aI fun Q1 n1 x1 y1 z1=>(W_r (aP rfl rfl (aK rfl rfl rfl rfl ?_)))))))
 refine bR rfl rfl (aA rfl ?_)
 refine aV 4 (fun T H=>T 1=(V.mp 1 1 0 0)∧T 13=(V.bool (decide (((t.i) < (1:Int))∨((64:Int) < (t.i)))))∧H 1=(bk 1 29 6 [[(iV (t.i)),(iV (t.tm)),(iV (t.s)),(aB t.nx),(aB t.ot),(V.sl (List.map cSr (t.st)))]])∧True) ?_ ?_
 ·
  by_cases g2:(t.i) < (1:Int)
  ·
   refine G_n (edT g2 rfl) (G_n (edT g2 rfl) (G_n (edT g2 rfl) (aX (edT g2 rfl) rfl ?_)))
   exact ⟨rfl,(bO g2),rfl,trivial⟩
  ·
   refine aD (edF g2 rfl) (aP rfl rfl (aD (edF g2 rfl) (aK rfl rfl rfl rfl (aD (edF g2 rfl) (eU rfl rfl (aW (edF g2 rfl) rfl ?_))))))
   exact ⟨rfl,(bP g2),rfl,trivial⟩
 intro T H ⟨t1,t13,h1,_⟩
 refine aA t13 ?_
 refine aV 4 (fun T H=>T 1=(V.mp 1 1 0 0)∧T 18=(V.bool (decide ((((t.i) < (1:Int))∨((64:Int) < (t.i)))∨((t.tm) < (0:Int)))))∧H 1=(bk 1 29 6 [[(iV (t.i)),(iV (t.tm)),(iV (t.s)),(aB t.nx),(aB t.ot),(V.sl (List.map cSr (t.st)))]])∧True) ?_ ?_
 ·
  by_cases g3:((t.i) < (1:Int))∨((64:Int) < (t.i))
  ·
   refine G_n (edT g3 rfl) (G_n (edT g3 rfl) (G_n (edT g3 rfl) (aX (edT g3 rfl) rfl ?_)))
   exact ⟨t1,(bO g3),h1,trivial⟩
  ·
   refine aD (edF g3 rfl) (aP t1 h1 (aD (edF g3 rfl) (aK rfl h1 rfl rfl (aD (edF g3 rfl) (bR rfl rfl (aW (edF g3 rfl) rfl ?_))))))
   exact ⟨t1,(bP g3),h1,trivial⟩
 intro T H ⟨t1,t18,h1,_⟩
 refine aA t18 ?_
 refine aV 4 (fun T H=>T 1=(V.mp 1 1 0 0)∧T 23=(V.bool (decide (((((t.i) < (1:Int))∨((64:Int) < (t.i)))∨((t.tm) < (0:Int)))∨((4:Int) < (t.tm)))))∧H 1=(bk 1 29 6 [[(iV (t.i)),(iV (t.tm)),(iV (t.s)),(aB t.nx),(aB t.ot),(V.sl (List.map cSr (t.st)))]])∧True) ?_ ?_
 ·
  by_cases g4:(((t.i) < (1:Int))∨((64:Int) < (t.i)))∨((t.tm) < (0:Int))
  ·
   refine G_n (edT g4 rfl) (G_n (edT g4 rfl) (G_n (edT g4 rfl) (aX (edT g4 rfl) rfl ?_)))
   exact ⟨t1,(bO g4),h1,trivial⟩
  ·
   refine aD (edF g4 rfl) (aP t1 h1 (aD (edF g4 rfl) (aK rfl h1 rfl rfl (aD (edF g4 rfl) (eU rfl rfl (aW (edF g4 rfl) rfl ?_))))))
   exact ⟨t1,(bP g4),h1,trivial⟩
 intro T H ⟨t1,t23,h1,_⟩
 refine aA t23 (R_e ?_)
 refine fR rfl (fun c5=>?_) fun c5=>?_
 ·
  refine W_r (aA rfl (R_e (bK (y1 _ _ ?_))))
  refine bH (@rfl V (iV (2:Int))) (aQ ?_)
  · rw [cR,if_pos (by omega)]
 refine W_r (aP t1 h1 (aK rfl h1 rfl rfl (aP t1 h1 (aK rfl h1 rfl rfl (jT rfl rfl (by omega) (by omega) (eU rfl rfl (aA rfl ?_)))))))
 refine R_e ?_
 refine fR rfl (fun c6=>?_) fun c6=>?_
 ·
  refine W_r (aA rfl (R_e (bK (y1 _ _ ?_))))
  refine bH (@rfl V (iV (11:Int))) (aQ ?_)
  · rw [cR,if_neg (by omega),if_pos (by omega)]
 refine W_r (aP t1 h1 (aK rfl h1 rfl rfl (bN rfl (kD rfl rfl (aA rfl (R_e ?_))))))
 refine fR rfl (fun c7=>?_) fun c7=>?_
 ·
  refine W_r (aA rfl (R_e (bK (y1 _ _ ?_))))
  refine bH (@rfl V (iV (19:Int))) (aQ ?_)
  · rw [cR,if_neg (by omega),if_neg (by omega),if_pos (by omega)]
 refine W_r (aP t1 h1 (aK rfl h1 rfl rfl (bN rfl (eU rfl rfl (aA rfl (R_e ?_))))))
 refine fR rfl (fun c8=>?_) fun c8=>?_
 ·
  refine W_r (aA rfl (R_e (bK (y1 _ _ ?_))))
  refine bH (@rfl V (iV (11:Int))) (aQ ?_)
  · rw [cR,if_neg (by omega),if_neg (by omega),if_neg (by omega),if_pos (by omega)]
 refine hY (fun T H=>T 1=(V.mp 1 1 0 0)∧T 41=(V.bool (decide (((t.s) < (0:Int))∨(((t.nx.length:Nat):Int)≤(t.s)))))∧H 1=(bk 1 29 6 [[(iV (t.i)),(iV (t.tm)),(iV (t.s)),(aB t.nx),(aB t.ot),(V.sl (List.map cSr (t.st)))]])∧True) ?_ ?_
 ·
  refine aP t1 h1 (aK rfl h1 rfl rfl (bR rfl rfl (aA rfl ?_)))
  refine aV 7 (fun T H=>T 1=(V.mp 1 1 0 0)∧T 52=(V.bool (decide (((t.s) < (0:Int))∨(((t.nx.length:Nat):Int)≤(t.s)))))∧H 1=(bk 1 29 6 [[(iV (t.i)),(iV (t.tm)),(iV (t.s)),(aB t.nx),(aB t.ot),(V.sl (List.map cSr (t.st)))]])∧True) ?_ ?_
  ·
   by_cases g9:(t.s) < (0:Int)
   ·
    refine G_n (edT g9 rfl) (G_n (edT g9 rfl) (G_n (edT g9 rfl) (G_n (edT g9 rfl) (G_n (edT g9 rfl) (G_n (edT g9 rfl) (aX (edT g9 rfl) rfl ?_))))))
    exact ⟨t1,(bO g9),h1,trivial⟩
   ·
    refine aD (edF g9 rfl) (aP t1 h1 (aD (edF g9 rfl) (aK rfl h1 rfl rfl (aD (edF g9 rfl) (aP t1 h1 (aD (edF g9 rfl) (aK rfl h1 rfl rfl ?_)))))))
    refine aD (edF g9 rfl) (bN rfl (aD (edF g9 rfl) (jL rfl rfl (aW (edF g9 rfl) rfl ?_))))
    exact ⟨t1,(bP g9),h1,trivial⟩
  intro T H ⟨t1,t52,h1,_⟩
  refine aA t52 ?_
  exact iK ⟨t1,rfl,h1,trivial⟩
 intro T H ⟨t1,t41,h1,_⟩
 refine fR t41 (fun c10=>?_) fun c10=>?_
 ·
  refine W_r (aA rfl (R_e (bK (y1 _ _ ?_))))
  refine bH (@rfl V (iV (2:Int))) (aQ ?_)
  · rw [cR,if_neg (by omega),if_neg (by omega),if_neg (by omega),if_neg (by omega),if_pos (by omega)]
 refine W_r (aP t1 h1 (aK rfl h1 rfl rfl (bN rfl (aP t1 h1 (aK rfl h1 rfl rfl (bN rfl (dQ rfl rfl ?_)))))))
 refine aA rfl ?_
 refine aV 8 (fun T H=>T 1=(V.mp 1 1 0 0)∧T 69=(V.bool (decide ((((t.ot.length:Nat):Int)≠((t.nx.length:Nat):Int))∨(((t.st.length:Nat):Int)≠((t.nx.length:Nat):Int)))))∧H 1=(bk 1 29 6 [[(iV (t.i)),(iV (t.tm)),(iV (t.s)),(aB t.nx),(aB t.ot),(V.sl (List.map cSr (t.st)))]])∧True) ?_ ?_
 ·
  by_cases g11:((t.ot.length:Nat):Int)≠((t.nx.length:Nat):Int)
  ·
   refine G_n (edT g11 rfl) (G_n (edT g11 rfl) (G_n (edT g11 rfl) (G_n (edT g11 rfl) (G_n (edT g11 rfl) (G_n (edT g11 rfl) (G_n (edT g11 rfl) (aX (edT g11 rfl) rfl ?_)))))))
   exact ⟨t1,(bO g11),h1,trivial⟩
  ·
   refine aD (edF g11 rfl) (aP t1 h1 (aD (edF g11 rfl) (aK rfl h1 rfl rfl (aD (edF g11 rfl) (bN rfl (aD (edF g11 rfl) (aP t1 h1 ?_)))))))
   refine aD (edF g11 rfl) (aK rfl h1 rfl rfl (aD (edF g11 rfl) (bN rfl (aD (edF g11 rfl) (dQ rfl rfl (aW (edF g11 rfl) rfl ?_))))))
   exact ⟨t1,(bP g11),h1,trivial⟩
 intro T H ⟨t1,t69,h1,_⟩
 refine aA t69 (R_e ?_)
 refine fR rfl (fun c12=>?_) fun c12=>?_
 ·
  refine W_r (aA rfl (R_e (bK (y1 _ _ ?_))))
  refine bH (@rfl V (iV (1:Int))) (aQ ?_)
  · rw [cR,if_neg (by omega),if_neg (by omega),if_neg (by omega),if_neg (by omega),if_neg (by omega),if_pos (by omega)]
 refine cX (n1 _ _ (.done (aC (W_r (aP t1 h1 (aK rfl h1 rfl rfl (bN rfl ?_)))))))
 refine aA rfl (R_e (aI fun Q13 n13 x13 y13 z13=>?_))
 refine cW (fun mm T H=> ∃ (k:Nat),mm=t.nx.length - k∧T 1=(V.mp 1 1 0 0)∧T 72=(iV ((t.nx.length:Nat):Int))∧T 73=(iV ((k:Nat):Int))∧H 1=(bk 1 29 6 [[(iV (t.i)),(iV (t.tm)),(iV (t.s)),(aB t.nx),(aB t.ot),(V.sl (List.map cSr (t.st)))]])∧(k≤t.nx.length)∧(1≤t.i∧t.i≤64∧0≤t.tm∧t.tm≤4∧t.i+t.tm≤64∧0 < t.nx.length∧t.nx.length≤128∧t.ot.length=t.nx.length∧t.st.length=t.nx.length)∧(cR t=fe (rR t) k (t.nx.length - k))) ?_ ?_
 ·
  refine ⟨_,0,rfl,t1,rfl,(Eq.trans (@rfl V (iV (0:Int))) rfl),h1,?_,?_,?_⟩
  · exact Nat.zero_le _
  · omega
  · rw [cR,if_neg (by omega),if_neg (by omega),if_neg (by omega),if_neg (by omega),if_neg (by omega),if_neg (by omega)]; rfl
 intro mm T H ⟨k,hmm,t1,t72,t73,h1,hk,hv,hc⟩ Q14 p114 p214 p314
 unfold aLm
 refine W_r (bR t73 t72 (R_e ?_))
 refine aO rfl (fun c15=>?_) fun c15=>?_
 ·
  refine aH (aI fun Q16 n16 x16 y16 z16=>(W_r (aA t73 (aA rfl (R_e (W_r (aK t1 h1 rfl rfl ?_)))))))
  refine aA rfl (bG (aFo t k (by omega) (by omega)) rfl (aA rfl (R_e (W_r (aA rfl (dQ rfl rfl (R_e ?_)))))))
  refine fR rfl (fun c17=>?_) fun c17=>?_
  ·
   refine W_r (aA rfl (aA rfl (R_e (bK (y16 _ _ (p214 _ _ (y13 _ _ ?_)))))))
   refine bH (@rfl V (iV (rR t k))) (aQ ?_)
   · rw [hc,gW (by omega) (by omega)]
  refine cX (n16 _ _ (.done (W_t (bV t73 (@rfl V (iV ((1:Nat):Int))) (by omega) (aA rfl (R_e ?_))))))
  refine p114 _ _ _ ?_ ⟨(k+1),rfl,t1,t72,(Eq.trans (@rfl V (iV ((k+1:Nat):Int))) (by first|rfl|simp)),h1,?_,?_,?_⟩
  · omega
  · omega
  · exact hv
  · rw [hc,lS (by omega) (by omega)]
 refine bA (p314 _ _ _ (x13 _ _ (.done (W_r (aA rfl (R_e (bK ?_)))))))
 refine bH (@rfl V (iV (0:Int))) (aQ ?_)
 · rw [hc,oW (by omega)]
theorem tA (m:M):bB Tryz.prog 30 [(V.agg [(iV (m.i)),(iV (m.s)),(aB m.nx),(aB m.ot)])] (iV (dU m)):=by
 refine pW Tryz.func30 aHU fun hB=>?_
 unfold s30
 dsimp only
 refine W_r (eT (i:=1) (n:=0) (m:=4) (cs:=[(iV (m.i)),(iV (m.s)),(aB m.nx),(aB m.ot)]) rfl (congrArg Blk.ver rfl) rfl rfl rfl (aA rfl (R_e (W_r (aP rfl rfl (aK rfl rfl rfl rfl (bN rfl ?_)))))))
 refine aA rfl (R_e (aI fun Q1 n1 x1 y1 z1=>(W_r (aP rfl rfl (aK rfl rfl rfl rfl (bR rfl rfl (aA rfl ?_)))))))
 refine aV 4 (fun T H=>T 1=(V.mp 1 1 0 0)∧T 3=(iV ((m.nx.length:Nat):Int))∧T 19=(V.bool (decide (((m.i) < (1:Int))∨((64:Int) < (m.i)))))∧H 1=(bk 1 24 4 [[(iV (m.i)),(iV (m.s)),(aB m.nx),(aB m.ot)]])∧True) ?_ ?_
 ·
  by_cases g2:(m.i) < (1:Int)
  ·
   refine G_n (edT g2 rfl) (G_n (edT g2 rfl) (G_n (edT g2 rfl) (aX (edT g2 rfl) rfl ?_)))
   exact ⟨rfl,rfl,(bO g2),rfl,trivial⟩
  ·
   refine aD (edF g2 rfl) (aP rfl rfl (aD (edF g2 rfl) (aK rfl rfl rfl rfl (aD (edF g2 rfl) (eU rfl rfl (aW (edF g2 rfl) rfl ?_))))))
   exact ⟨rfl,rfl,(bP g2),rfl,trivial⟩
 intro T H ⟨t1,t3,t19,h1,_⟩
 refine aA t19 (R_e ?_)
 refine fR rfl (fun c3=>?_) fun c3=>?_
 ·
  refine W_r (aA rfl (R_e (bK (y1 _ _ ?_))))
  refine bH (@rfl V (iV (2:Int))) (aQ ?_)
  · rw [dU,if_pos (by omega)]
 refine W_r (aA t3 (kD rfl rfl (aA rfl (R_e ?_))))
 refine fR rfl (fun c4=>?_) fun c4=>?_
 ·
  refine W_r (aA rfl (R_e (bK (y1 _ _ ?_))))
  refine bH (@rfl V (iV (19:Int))) (aQ ?_)
  · rw [dU,if_neg (by omega),if_pos (by omega)]
 refine W_r (aA t3 (eU rfl rfl (aA rfl (R_e ?_))))
 refine fR rfl (fun c5=>?_) fun c5=>?_
 ·
  refine W_r (aA rfl (R_e (bK (y1 _ _ ?_))))
  refine bH (@rfl V (iV (11:Int))) (aQ ?_)
  · rw [dU,if_neg (by omega),if_neg (by omega),if_pos (by omega)]
 refine W_r (aP t1 h1 (aK rfl h1 rfl rfl (bR rfl rfl (aA rfl ?_))))
 refine aV 5 (fun T H=>T 1=(V.mp 1 1 0 0)∧T 3=(iV ((m.nx.length:Nat):Int))∧T 35=(V.bool (decide (((m.s) < (0:Int))∨(((m.nx.length:Nat):Int)≤(m.s)))))∧H 1=(bk 1 24 4 [[(iV (m.i)),(iV (m.s)),(aB m.nx),(aB m.ot)]])∧True) ?_ ?_
 ·
  by_cases g6:(m.s) < (0:Int)
  ·
   refine G_n (edT g6 rfl) (G_n (edT g6 rfl) (G_n (edT g6 rfl) (G_n (edT g6 rfl) (aX (edT g6 rfl) rfl ?_))))
   exact ⟨t1,t3,(bO g6),h1,trivial⟩
  ·
   refine aD (edF g6 rfl) (aP t1 h1 (aD (edF g6 rfl) (aK rfl h1 rfl rfl (aD (edF g6 rfl) (aA t3 (aD (edF g6 rfl) (jL rfl rfl ?_)))))))
   refine aW (edF g6 rfl) rfl ?_
   exact ⟨t1,t3,(bP g6),h1,trivial⟩
 intro T H ⟨t1,t3,t35,h1,_⟩
 refine aA t35 (R_e ?_)
 refine fR rfl (fun c7=>?_) fun c7=>?_
 ·
  refine W_r (aA rfl (R_e (bK (y1 _ _ ?_))))
  refine bH (@rfl V (iV (2:Int))) (aQ ?_)
  · rw [dU,if_neg (by omega),if_neg (by omega),if_neg (by omega),if_pos (by omega)]
 refine W_r (aP t1 h1 (aK rfl h1 rfl rfl (bN rfl (aA t3 (dQ rfl rfl (aA rfl (R_e ?_)))))))
 refine fR rfl (fun c8=>?_) fun c8=>?_
 ·
  refine W_r (aA rfl (R_e (bK (y1 _ _ ?_))))
  refine bH (@rfl V (iV (1:Int))) (aQ ?_)
  · rw [dU,if_neg (by omega),if_neg (by omega),if_neg (by omega),if_neg (by omega),if_pos (by omega)]
 refine cX (n1 _ _ (.done (aC (W_r (aA t3 (aA rfl (R_e ?_)))))))
 refine aI fun Q9 n9 x9 y9 z9=>?_
 refine cW (fun mm T H=> ∃ (k:Nat),mm=m.nx.length - k∧T 1=(V.mp 1 1 0 0)∧T 3=(iV ((m.nx.length:Nat):Int))∧T 42=(iV ((m.nx.length:Nat):Int))∧T 43=(iV ((k:Nat):Int))∧H 1=(bk 1 24 4 [[(iV (m.i)),(iV (m.s)),(aB m.nx),(aB m.ot)]])∧(k≤m.nx.length)∧(1≤m.i∧m.i≤64∧0 < m.nx.length∧m.nx.length≤128∧m.ot.length=m.nx.length)∧(dU m=fe (aAK m) k (m.nx.length - k))) ?_ ?_
 ·
  refine ⟨_,0,rfl,t1,t3,rfl,(Eq.trans (@rfl V (iV (0:Int))) rfl),h1,?_,?_,?_⟩
  · omega
  · omega
  · rw [dU,if_neg (by omega),if_neg (by omega),if_neg (by omega),if_neg (by omega),if_neg (by omega)]; rfl
 intro mm T H ⟨k,hmm,t1,t3,t42,t43,h1,hk,hv,hc⟩ Q10 p110 p210 p310
 unfold aLN
 refine W_r (bR t43 t42 (R_e ?_))
 refine aO rfl (fun c11=>?_) fun c11=>?_
 ·
  refine aH (aI fun Q12 n12 x12 y12 z12=>(W_r (aA t43 (aA rfl (R_e (aC (W_r ?_)))))))
  refine aP t1 h1 (aK rfl h1 rfl rfl (aA rfl (bL (i:=k) (@rfl V (aB m.nx)) (@rfl V (iV ((k:Nat):Int))) (by omega) rfl (aJ rfl rfl (bN rfl (aP t1 h1 (aK rfl h1 rfl rfl ?_)))))))
  refine dQ rfl rfl (aA rfl ?_)
  refine aV 10 (fun T H=>T 1=(V.mp 1 1 0 0)∧T 3=(iV ((m.nx.length:Nat):Int))∧T 4=(iV ((k:Nat):Int))∧T 42=(iV ((m.nx.length:Nat):Int))∧T 43=(iV ((k:Nat):Int))∧T 65=(V.bool (decide ((((((nth (m.nx) (k))).length:Nat):Int)≠(m.i))∨(((((nth (m.ot) (k))).length:Nat):Int)≠(m.i)))))∧H 1=(bk 1 24 4 [[(iV (m.i)),(iV (m.s)),(aB m.nx),(aB m.ot)]])∧True) ?_ ?_
  ·
   by_cases g13:((((nth (m.nx) (k))).length:Nat):Int)≠(m.i)
   ·
    refine G_n (edT g13 rfl) (G_n (edT g13 rfl) (G_n (edT g13 rfl) (G_n (edT g13 rfl) (G_n (edT g13 rfl) (G_n (edT g13 rfl) (G_n (edT g13 rfl) (G_n (edT g13 rfl) ?_)))))))
    refine G_n (edT g13 rfl) (aX (edT g13 rfl) rfl ?_)
    exact ⟨t1,t3,rfl,t42,t43,(bO g13),h1,trivial⟩
   ·
    refine aD (edF g13 rfl) (aP t1 h1 (aD (edF g13 rfl) (aK rfl h1 rfl rfl (aD (edF g13 rfl) (aA rfl (aD (edF g13 rfl) (bL (i:=k) (@rfl V (aB m.ot)) (@rfl V (iV ((k:Nat):Int))) (by omega) rfl ?_)))))))
    refine aD (edF g13 rfl) (aJ rfl rfl (aD (edF g13 rfl) (bN rfl (aD (edF g13 rfl) (aP t1 h1 (aD (edF g13 rfl) (aK rfl h1 rfl rfl ?_)))))))
    refine aD (edF g13 rfl) (dQ rfl rfl (aW (edF g13 rfl) rfl ?_))
    exact ⟨t1,t3,rfl,t42,t43,(bP g13),h1,trivial⟩
  intro T H ⟨t1,t3,t4,t42,t43,t65,h1,_⟩
  refine R_e ?_
  refine aO t65 (fun c14=>?_) fun c14=>?_
  ·
   refine aC (W_r (aA rfl (R_e (aU (y12 _ _ (p210 _ _ (y9 _ _ ?_)))))))
   refine bH (@rfl V (iV (1:Int))) (aQ ?_)
   · rw [hc,gW (by rw [aAK,if_pos (by omega)]; decide) (by omega),aAK,if_pos (by omega)]
  refine aH (W_r (aP t1 h1 (aK rfl h1 rfl rfl (aA rfl (R_e (tS fun Q15 n15 x15 y15 z15=>?_))))))
  refine cW (fun mm T H=> ∃ (j:Nat),mm=((m.i).toNat) - j∧T 1=(V.mp 1 1 0 0)∧T 3=(iV ((m.nx.length:Nat):Int))∧T 4=(iV ((k:Nat):Int))∧T 42=(iV ((m.nx.length:Nat):Int))∧T 43=(iV ((k:Nat):Int))∧T 67=(iV (m.i))∧T 68=(iV ((j:Nat):Int))∧H 1=(bk 1 24 4 [[(iV (m.i)),(iV (m.s)),(aB m.nx),(aB m.ot)]])∧(j≤(m.i).toNat)∧(((nth m.nx k).length:Int)=m.i∧((nth m.ot k).length:Int)=m.i)∧(aAK m k=fe (aDb m k) j (m.i.toNat - j))) ?_ ?_
  ·
   refine ⟨_,0,rfl,t1,t3,t4,t42,t43,rfl,(Eq.trans (@rfl V (iV (0:Int))) rfl),h1,?_,?_,?_⟩
   · omega
   · omega
   · rw [aAK,if_neg (by omega)]; rfl
  intro mm T H ⟨j,hmm,t1,t3,t4,t42,t43,t67,t68,h1,hj,hl,hr⟩ Q16 p116 p216 p316
  unfold aLu
  refine W_r (bR t68 t67 (R_e ?_))
  refine aO rfl (fun c17=>?_) fun c17=>?_
  ·
   refine aH (aI fun Q18 n18 x18 y18 z18=>(W_r (aA t68 (aA rfl (R_e (W_r (aP t1 h1 ?_)))))))
   refine aK rfl h1 rfl rfl (aA t4 (bL (i:=k) (@rfl V (aB m.nx)) (@rfl V (iV ((k:Nat):Int))) (by omega) rfl (aJ rfl rfl (aA rfl (bL (i:=j) (@rfl V (aS ((nth (m.nx) (k))))) (@rfl V (iV ((j:Nat):Int))) (by omega) rfl (aJ rfl rfl (aP t1 h1 ?_)))))))
   refine aK rfl h1 rfl rfl (aA t4 (bL (i:=k) (@rfl V (aB m.ot)) (@rfl V (iV ((k:Nat):Int))) (by omega) rfl (aJ rfl rfl (aA rfl (bL (i:=j) (@rfl V (aS ((nth (m.ot) (k))))) (@rfl V (iV ((j:Nat):Int))) (by omega) rfl (aJ rfl rfl (aA rfl ?_)))))))
   refine aA rfl (R_e (W_r (aA rfl (bR rfl rfl (aA rfl ?_)))))
   refine aV 4 (fun T H=>T 1=(V.mp 1 1 0 0)∧T 3=(iV ((m.nx.length:Nat):Int))∧T 4=(iV ((k:Nat):Int))∧T 7=(iV ((nth ((nth (m.ot) (k))) (j))))∧T 42=(iV ((m.nx.length:Nat):Int))∧T 43=(iV ((k:Nat):Int))∧T 67=(iV (m.i))∧T 68=(iV ((j:Nat):Int))∧T 93=(V.bool (decide ((((nth ((nth (m.nx) (k))) (j))) < (0:Int))∨(((m.nx.length:Nat):Int)≤((nth ((nth (m.nx) (k))) (j)))))))∧H 1=(bk 1 24 4 [[(iV (m.i)),(iV (m.s)),(aB m.nx),(aB m.ot)]])∧True) ?_ ?_
   ·
    by_cases g19:((nth ((nth (m.nx) (k))) (j))) < (0:Int)
    ·
     refine G_n (edT g19 rfl) (G_n (edT g19 rfl) (G_n (edT g19 rfl) (aX (edT g19 rfl) rfl ?_)))
     exact ⟨t1,t3,t4,rfl,t42,t43,t67,t68,(bO g19),h1,trivial⟩
    ·
     refine aD (edF g19 rfl) (aA rfl (aD (edF g19 rfl) (aA t3 (aD (edF g19 rfl) (jL rfl rfl (aW (edF g19 rfl) rfl ?_))))))
     exact ⟨t1,t3,t4,rfl,t42,t43,t67,t68,(bP g19),h1,trivial⟩
   intro T H ⟨t1,t3,t4,t7,t42,t43,t67,t68,t93,h1,_⟩
   refine aA t93 ?_
   refine aV 3 (fun T H=>T 1=(V.mp 1 1 0 0)∧T 3=(iV ((m.nx.length:Nat):Int))∧T 4=(iV ((k:Nat):Int))∧T 7=(iV ((nth ((nth (m.ot) (k))) (j))))∧T 42=(iV ((m.nx.length:Nat):Int))∧T 43=(iV ((k:Nat):Int))∧T 67=(iV (m.i))∧T 68=(iV ((j:Nat):Int))∧T 97=(V.bool (decide (((((nth ((nth (m.nx) (k))) (j))) < (0:Int))∨(((m.nx.length:Nat):Int)≤((nth ((nth (m.nx) (k))) (j)))))∨(((nth ((nth (m.ot) (k))) (j))) < (0:Int)))))∧H 1=(bk 1 24 4 [[(iV (m.i)),(iV (m.s)),(aB m.nx),(aB m.ot)]])∧True) ?_ ?_
   ·
    by_cases g20:(((nth ((nth (m.nx) (k))) (j))) < (0:Int))∨(((m.nx.length:Nat):Int)≤((nth ((nth (m.nx) (k))) (j))))
    ·
     refine G_n (edT g20 rfl) (G_n (edT g20 rfl) (aX (edT g20 rfl) rfl ?_))
     exact ⟨t1,t3,t4,t7,t42,t43,t67,t68,(bO g20),h1,trivial⟩
    ·
     refine aD (edF g20 rfl) (aA t7 (aD (edF g20 rfl) (bR rfl rfl (aW (edF g20 rfl) rfl ?_))))
     exact ⟨t1,t3,t4,t7,t42,t43,t67,t68,(bP g20),h1,trivial⟩
   intro T H ⟨t1,t3,t4,t7,t42,t43,t67,t68,t97,h1,_⟩
   refine aA t97 ?_
   refine aV 3 (fun T H=>T 1=(V.mp 1 1 0 0)∧T 3=(iV ((m.nx.length:Nat):Int))∧T 4=(iV ((k:Nat):Int))∧T 42=(iV ((m.nx.length:Nat):Int))∧T 43=(iV ((k:Nat):Int))∧T 67=(iV (m.i))∧T 68=(iV ((j:Nat):Int))∧T 101=(V.bool (decide ((((((nth ((nth (m.nx) (k))) (j))) < (0:Int))∨(((m.nx.length:Nat):Int)≤((nth ((nth (m.nx) (k))) (j)))))∨(((nth ((nth (m.ot) (k))) (j))) < (0:Int)))∨((1048576:Int) < ((nth ((nth (m.ot) (k))) (j)))))))∧H 1=(bk 1 24 4 [[(iV (m.i)),(iV (m.s)),(aB m.nx),(aB m.ot)]])∧True) ?_ ?_
   ·
    by_cases g21:((((nth ((nth (m.nx) (k))) (j))) < (0:Int))∨(((m.nx.length:Nat):Int)≤((nth ((nth (m.nx) (k))) (j)))))∨(((nth ((nth (m.ot) (k))) (j))) < (0:Int))
    ·
     refine G_n (edT g21 rfl) (G_n (edT g21 rfl) (aX (edT g21 rfl) rfl ?_))
     exact ⟨t1,t3,t4,t42,t43,t67,t68,(bO g21),h1,trivial⟩
    ·
     refine aD (edF g21 rfl) (aA t7 (aD (edF g21 rfl) (eU rfl rfl (aW (edF g21 rfl) rfl ?_))))
     exact ⟨t1,t3,t4,t42,t43,t67,t68,(bP g21),h1,trivial⟩
   intro T H ⟨t1,t3,t4,t42,t43,t67,t68,t101,h1,_⟩
   refine R_e ?_
   refine fR t101 (fun c22=>?_) fun c22=>?_
   ·
    refine W_r (aA rfl (R_e (bK (y18 _ _ (p216 _ _ (y15 _ _ (y12 _ _ ?_)))))))
    refine p210 _ _ (y9 _ _ ?_)
    refine bH (@rfl V (iV (2:Int))) (aQ ?_)
    · have e:aAK m k=2:=by
        rw [hr,gW (by unfold aDb; split <;> omega) (by omega)]; unfold aDb; split <;> omega
      rw [hc,gW (by omega) (by omega),e]
   refine cX (n18 _ _ (.done (W_t (bV t68 (@rfl V (iV ((1:Nat):Int))) (by omega) (aA rfl (R_e ?_))))))
   refine p116 _ _ _ ?_ ⟨(j+1),rfl,t1,t3,t4,t42,t43,t67,(Eq.trans (@rfl V (iV ((j+1:Nat):Int))) (by first|rfl|simp)),h1,?_,?_,?_⟩
   · omega
   · omega
   · omega
   · rw [hr,lS (by unfold aDb; split <;> omega) (by omega)]
  refine bA (p316 _ _ _ (x15 _ _ (n12 _ _ (.done (W_t (bV t43 (@rfl V (iV ((1:Nat):Int))) (by omega) (aA rfl ?_)))))))
  refine R_e ?_
  refine p110 _ _ _ ?_ ⟨(k+1),rfl,t1,t3,t42,(Eq.trans (@rfl V (iV ((k+1:Nat):Int))) (by first|rfl|simp)),h1,?_,?_,?_⟩
  · omega
  · omega
  · omega
  · rw [hc,lS (by rw [hr,oW (by omega)]) (by omega)]
 refine bA (p310 _ _ _ (x9 _ _ (.done (W_r (aA rfl (R_e (bK ?_)))))))
 refine bH (@rfl V (iV (0:Int))) (aQ ?_)
 · rw [hc,oW (by omega)]
theorem aBE (t:TM) (c:Cf) (i:Nat) (ht:TOK t) (hc:mU t c) (hj:(i:Int) < t.i+t.tm):bB Tryz.prog 64 [(V.agg [(iV (t.i)),(iV (t.tm)),(iV (t.s)),(aB t.nx),(aB t.ot),(V.sl (List.map cSr (t.st)))]),(V.agg [(iV (c.1)),(V.bool (nth (c.2) 0)),(V.bool (nth (c.2) 1)),(V.bool (nth (c.2) 2)),(V.bool (nth (c.2) 3))]),(iV ((i:Nat):Int))] (V.tup [(V.agg [(iV (((afP t c i)).1)),(V.bool (nth (((afP t c i)).2) 0)),(V.bool (nth (((afP t c i)).2) 1)),(V.bool (nth (((afP t c i)).2) 2)),(V.bool (nth (((afP t c i)).2) 3))]),(iV (afD t c i)),(V.bool (psB t c i))]):=by
 refine pW Tryz.func64 aHn fun hB=>?_
 unfold s64
 dsimp only
 obtain ⟨h1,h2,h3,h4,h5,h6,h7,h8,h9,h10,h11,h12⟩:=ht
 have hc1:=hc.1
 have hc2:=hc.2.1
 have hc3:=hc.2.2
 have hr:=h12 c.1.toNat (by omega)
 have hx:=hr.2.2.2 i hj
 unfold tSt at hx
 have l0:=cD (t:=t) (c:=c) (i:=i)
 refine W_r (eT (i:=3) (n:=0) (m:=6) (cs:=[(iV (t.i)),(iV (t.tm)),(iV (t.s)),(aB t.nx),(aB t.ot),(V.sl (List.map cSr (t.st)))]) rfl (congrArg Blk.ver rfl) rfl rfl rfl (eT (i:=4) (n:=0) (m:=5) (cs:=[(iV (c.1)),(V.bool (nth (c.2) 0)),(V.bool (nth (c.2) 1)),(V.bool (nth (c.2) 2)),(V.bool (nth (c.2) 3))]) rfl (congrArg Blk.ver rfl) rfl rfl rfl (cK (i:=6) (n:=0) (m:=5) rfl (congrArg Blk.ver rfl) rfl (aA rfl (aA rfl (R_e (W_d (by exact (lV rfl wM)) ?_)))))))
 refine aP rfl rfl (aK rfl rfl rfl rfl (aP rfl rfl (aK rfl rfl rfl rfl (gU (i:=(c.1)) (@rfl V (aB t.nx)) (@rfl V (iV (c.1))) (by omega) (by omega) rfl (aJ rfl rfl (aA rfl (bL (i:=i) (@rfl V (aS ((nth (t.nx) (c.1).toNat)))) (@rfl V (iV ((i:Nat):Int))) (by omega) rfl ?_)))))))
 refine aJ rfl rfl (aP rfl rfl (aK rfl rfl rfl rfl (eM rfl rfl (cK (i:=9) (n:=0) (m:=5) rfl (congrArg Blk.ver rfl) rfl (mM rfl rfl rfl rfl rfl rfl rfl rfl rfl (R_e (aC ?_)))))))
 refine W_r (aA rfl (aP rfl rfl (aK rfl rfl rfl rfl (jL rfl rfl (R_e ?_)))))
 refine nA (fun T H=>T 2=(iV ((i:Nat):Int))∧T 3=(V.mp 3 1 0 0)∧T 4=(V.mp 4 1 0 0)∧T 6=(V.mp 6 1 0 0)∧T 9=(V.mp 9 1 0 0)∧H 3=(bk 1 29 6 [[(iV (t.i)),(iV (t.tm)),(iV (t.s)),(aB t.nx),(aB t.ot),(V.sl (List.map cSr (t.st)))]])∧H 4=(bk 1 127 5 [[(iV (c.1)),(V.bool (nth (c.2) 0)),(V.bool (nth (c.2) 1)),(V.bool (nth (c.2) 2)),(V.bool (nth (c.2) 3))]])∧H 6=(bk 1 127 5 [[(iV (0:Int)),(V.bool false),(V.bool false),(V.bool false),(V.bool false)]])∧H 9=(bk 1 127 5 [[(iV ((nth ((nth (t.nx) (c.1).toNat)) (i)))),(V.bool (nth ((af0 t c i)) 0)),(V.bool (nth ((af0 t c i)) 1)),(V.bool (nth ((af0 t c i)) 2)),(V.bool (nth ((af0 t c i)) 3))]])∧H 11=(⟨0,false,false,0,0,[]⟩:Blk)∧(psB t c i=true)∧True) (fun Q1 n1 y1 z1=>?_) ?_
 ·
  refine fR rfl (fun c2=>?_) fun c2=>?_
  ·
   skip
   refine W_r (aA rfl (aP rfl rfl (aK rfl rfl rfl rfl (yQ rfl rfl (by omega) (by omega) (aA rfl (R_e (aC ?_)))))))
   refine W_r (aA rfl (aP rfl rfl (mX (i:=(((((i:Nat):Int) - (t.i))).toNat)) (o':=(1+(((((i:Nat):Int) - (t.i))).toNat))) (@rfl V (V.mp 4 1 0 1)) (Eq.trans (@rfl V (iV (((i:Nat):Int) - (t.i)))) (qZ (by omega))) (@rfl Blk (bk 1 127 5 [[(iV (c.1)),(V.bool (nth (c.2) 0)),(V.bool (nth (c.2) 1)),(V.bool (nth (c.2) 2)),(V.bool (nth (c.2) 3))]])) oB (by omega) (by omega) (bT (v:=(V.bool (nth c.2 (((i:Nat):Int) - t.i).toNat))) rfl rfl (ld4 (l:=c.2) (by omega)) (oK rfl (R_e ?_))))))
   refine eC rfl (fun c3=>?_) (fun c3=>?_)
   ·
    have hp:psB t c i=false:=by unfold psB; rw [decide_eq_false (by omega)]; simpa using c3
    refine aC (W_r (aK rfl rfl rfl rfl (mM rfl rfl rfl rfl rfl rfl rfl rfl rfl (aA rfl (aA rfl (R_e (aU ?_)))))))
    refine y1 _ _ ?_
    refine aCv (jO (u:=(V.agg [(iV (c.1)),(V.bool (nth (c.2) 0)),(V.bool (nth (c.2) 1)),(V.bool (nth (c.2) 2)),(V.bool (nth (c.2) 3))])) rfl (@rfl Blk (bk 1 127 5 [[(iV (c.1)),(V.bool (nth (c.2) 0)),(V.bool (nth (c.2) 1)),(V.bool (nth (c.2) 2)),(V.bool (nth (c.2) 3))]])) (lB oB rfl rfl)) (iQ (@rfl V (iV (-1:Int)))) (iQ (@rfl V (V.bool false))) (zJ (aQ ?_) (bU ?_) (bU ?_) (bU ?_) (bU ?_)) (aQ ?_) (bU ?_)
    · rw [(nX hp).1]
    · rw [(nX hp).1]
    · rw [(nX hp).1]
    · rw [(nX hp).1]
    · rw [(nX hp).1]
    · exact (nX hp).2.symm
    · exact hp.symm
   have hp:psB t c i=true:=by unfold psB; rw [decide_eq_false (by omega)]; simpa using c3
   have e2:c.2.set (((i:Nat):Int) - t.i).toNat false=af0 t c i:=(if_pos (by omega)).symm
   refine aH (W_t (aA rfl (aP rfl rfl (mX (i:=(((((i:Nat):Int) - (t.i))).toNat)) (o':=(1+(((((i:Nat):Int) - (t.i))).toNat))) (@rfl V (V.mp 9 1 0 1)) (Eq.trans (@rfl V (iV (((i:Nat):Int) - (t.i)))) (qZ (by omega))) (@rfl Blk (bk 1 127 5 [[(iV ((nth ((nth (t.nx) (c.1).toNat)) (i)))),(V.bool (nth (c.2) 0)),(V.bool (nth (c.2) 1)),(V.bool (nth (c.2) 2)),(V.bool (nth (c.2) 3))]])) oB (by omega) (by omega) (bQ (vs:=[(V.bool false)]) (B':=(bk 1 127 5 [[(iV ((nth ((nth (t.nx) (c.1).toNat)) (i)))),(V.bool (nth (c.2.set (((((i:Nat):Int) - (t.i))).toNat) false) 0)),(V.bool (nth (c.2.set (((((i:Nat):Int) - (t.i))).toNat) false) 1)),(V.bool (nth (c.2.set (((((i:Nat):Int) - (t.i))).toNat) false) 2)),(V.bool (nth (c.2.set (((((i:Nat):Int) - (t.i))).toNat) false) 3))]])) rfl rfl rfl rfl (st4 (l:=c.2) (by omega) (by omega)) (R_e ?_))))))
   refine n1 _ _ ⟨rfl,rfl,rfl,rfl,rfl,rfl,rfl,rfl,(Eq.trans (@rfl Blk (bk 1 127 5 [[(iV ((nth ((nth (t.nx) (c.1).toNat)) (i)))),(V.bool (nth (c.2.set (((((i:Nat):Int) - (t.i))).toNat) false) 0)),(V.bool (nth (c.2.set (((((i:Nat):Int) - (t.i))).toNat) false) 1)),(V.bool (nth (c.2.set (((((i:Nat):Int) - (t.i))).toNat) false) 2)),(V.bool (nth (c.2.set (((((i:Nat):Int) - (t.i))).toNat) false) 3))]])) (by first|rfl|(rw [e2]; rfl)|(rw [e2]; done)|simp)),rfl,?_,trivial⟩
   · exact hp
  have hp:psB t c i=true:=by unfold psB; rw [decide_eq_true (by omega)]; rfl
  have e2:c.2=af0 t c i:=(if_neg (by omega)).symm
  refine cX ?_
  refine n1 _ _ ⟨rfl,rfl,rfl,rfl,rfl,rfl,rfl,rfl,(Eq.trans (@rfl Blk (bk 1 127 5 [[(iV ((nth ((nth (t.nx) (c.1).toNat)) (i)))),(V.bool (nth (c.2) 0)),(V.bool (nth (c.2) 1)),(V.bool (nth (c.2) 2)),(V.bool (nth (c.2) 3))]])) (by first|rfl|(rw [e2]; rfl)|(rw [e2]; done)|simp)),rfl,?_,trivial⟩
  · exact hp
 intro T H ⟨t2,t3,t4,t6,t9,h3,h4,h6,h9,h11,hp,_⟩
 refine W_r (aP t3 h3 (aK rfl h3 rfl rfl (aP t4 h4 (aK rfl h4 rfl rfl (gU (i:=(c.1)) (@rfl V (V.sl (List.map cSr (t.st)))) (@rfl V (iV (c.1))) (by omega) (by omega) rfl (aJ rfl rfl (aA t2 ?_)))))))
 refine bL (i:=i) (@rfl V (V.sl (List.map cSg ((nth (t.st) (c.1).toNat))))) (@rfl V (iV ((i:Nat):Int))) (by omega) rfl (aJ rfl rfl (cK (i:=11) (n:=0) (m:=2) rfl (congrArg Blk.ver h11) rfl (mM rfl rfl rfl rfl rfl rfl rfl rfl rfl (R_e (aC (W_r (aP rfl rfl ?_)))))))
 refine aK rfl rfl rfl rfl (bR rfl rfl (aA rfl ?_))
 refine aV 12 (fun T H=>T 6=(V.mp 6 1 0 0)∧T 9=(V.mp 9 1 0 0)∧T 11=(V.mp 11 1 0 0)∧T 65=(V.bool ((decide ((((nth ((nth (t.st) (c.1).toNat)) (i))).1) < (0:Int))||((decide ((((nth ((nth (t.st) (c.1).toNat)) (i))).2)=(0:Int))&&((!nth (af0 t c i) (nth (nth t.st c.1.toNat) i).1.toNat)))))))∧H 3=(bk 1 29 6 [[(iV (t.i)),(iV (t.tm)),(iV (t.s)),(aB t.nx),(aB t.ot),(V.sl (List.map cSr (t.st)))]])∧H 4=(bk 1 127 5 [[(iV (c.1)),(V.bool (nth (c.2) 0)),(V.bool (nth (c.2) 1)),(V.bool (nth (c.2) 2)),(V.bool (nth (c.2) 3))]])∧H 6=(bk 1 127 5 [[(iV (0:Int)),(V.bool false),(V.bool false),(V.bool false),(V.bool false)]])∧H 9=(bk 1 127 5 [[(iV ((nth ((nth (t.nx) (c.1).toNat)) (i)))),(V.bool (nth ((af0 t c i)) 0)),(V.bool (nth ((af0 t c i)) 1)),(V.bool (nth ((af0 t c i)) 2)),(V.bool (nth ((af0 t c i)) 3))]])∧H 11=(bk 1 73 2 [[(iV (((nth ((nth (t.st) (c.1).toNat)) (i))).1)),(iV (((nth ((nth (t.st) (c.1).toNat)) (i))).2))]])∧True) ?_ ?_
 ·
  by_cases g4:(((nth ((nth (t.st) (c.1).toNat)) (i))).1) < (0:Int)
  ·
   refine G_n (edT g4 rfl) (G_n (edT g4 rfl) (G_n (edT g4 rfl) (G_n (edT g4 rfl) (fO (@rfl V (V.raw undef)) (fO (@rfl V (V.raw undef)) (fO (@rfl V (V.raw undef)) (fO (@rfl V (V.raw undef)) ?_)))))))
   refine fO (@rfl V (V.raw undef)) (fO (@rfl V (V.raw undef)) (G_n (edT g4 rfl) (aX (edT g4 rfl) rfl ?_)))
   exact ⟨t6,t9,rfl,(aEN g4),h3,h4,h6,h9,rfl,trivial⟩
  ·
   refine aD (edF g4 rfl) (aP rfl rfl (aD (edF g4 rfl) (aK rfl rfl rfl rfl (aD (edF g4 rfl) (kD rfl rfl (aD (edF g4 rfl) (aA rfl ?_)))))))
   refine aV 7 (fun T H=>T 6=(V.mp 6 1 0 0)∧T 9=(V.mp 9 1 0 0)∧T 11=(V.mp 11 1 0 0)∧T 53=(V.bool false)∧T 64=(V.bool ((decide ((((nth ((nth (t.st) (c.1).toNat)) (i))).2)=(0:Int))&&((!nth (af0 t c i) (nth (nth t.st c.1.toNat) i).1.toNat)))))∧H 3=(bk 1 29 6 [[(iV (t.i)),(iV (t.tm)),(iV (t.s)),(aB t.nx),(aB t.ot),(V.sl (List.map cSr (t.st)))]])∧H 4=(bk 1 127 5 [[(iV (c.1)),(V.bool (nth (c.2) 0)),(V.bool (nth (c.2) 1)),(V.bool (nth (c.2) 2)),(V.bool (nth (c.2) 3))]])∧H 6=(bk 1 127 5 [[(iV (0:Int)),(V.bool false),(V.bool false),(V.bool false),(V.bool false)]])∧H 9=(bk 1 127 5 [[(iV ((nth ((nth (t.nx) (c.1).toNat)) (i)))),(V.bool (nth ((af0 t c i)) 0)),(V.bool (nth ((af0 t c i)) 1)),(V.bool (nth ((af0 t c i)) 2)),(V.bool (nth ((af0 t c i)) 3))]])∧H 11=(bk 1 73 2 [[(iV (((nth ((nth (t.st) (c.1).toNat)) (i))).1)),(iV (((nth ((nth (t.st) (c.1).toNat)) (i))).2))]])∧True) ?_ ?_
   ·
    by_cases g5:(((nth ((nth (t.st) (c.1).toNat)) (i))).2)=(0:Int)
    ·
     refine aD (edT g5 rfl) (aP rfl rfl (aD (edT g5 rfl) (aK rfl rfl rfl rfl (aD (edT g5 rfl) (aP t9 h9 (aD (edT g5 rfl) (mX (i:=(((((nth ((nth (t.st) (c.1).toNat)) (i))).1)).toNat)) (o':=(1+(((((nth ((nth (t.st) (c.1).toNat)) (i))).1)).toNat))) (@rfl V (V.mp 9 1 0 1)) (Eq.trans (@rfl V (iV (((nth ((nth (t.st) (c.1).toNat)) (i))).1))) (qZ (by omega))) h9 oB (by omega) (by omega) ?_)))))))
     refine aD (edT g5 rfl) (bT (v:=(V.bool (nth (af0 t c i) (nth (nth t.st c.1.toNat) i).1.toNat))) rfl h9 (ld4 (l:=(af0 t c i)) (by omega)) (aD (edT g5 rfl) (oK rfl (aD (edF g4 rfl) (aX (edT g5 rfl) rfl ?_)))))
     exact ⟨t6,t9,rfl,(edF g4 rfl),(aCM g5),h3,h4,h6,h9,rfl,trivial⟩
    ·
     refine G_n (edF g5 rfl) (G_n (edF g5 rfl) (G_n (edF g5 rfl) (G_n (edF g5 rfl) (G_n (edF g5 rfl) (G_n (edF g5 rfl) (aD (edF g4 rfl) (aW (edF g5 rfl) rfl ?_)))))))
     exact ⟨t6,t9,rfl,(edF g4 rfl),(aC8 g5),h3,h4,h6,h9,rfl,trivial⟩
   intro T H ⟨t6,t9,t11,t53,t64,h3,h4,h6,h9,h11,_⟩
   refine aW t53 t64 ?_
   exact ⟨t6,t9,t11,(aDZ g4),h3,h4,h6,h9,h11,trivial⟩
 intro T H ⟨t6,t9,t11,t65,h3,h4,h6,h9,h11,_⟩
 refine R_e ?_
 refine eC t65 (fun c6=>?_) (fun c6=>?_)
 ·
  obtain ⟨d1,d2,d3⟩:=aEd c6
  have e3:(afP t c i).2=af0 t c i:=by rw [(jD hp).1]; exact d2
  have e4:(afP t c i).1=nth (nth t.nx c.1.toNat) i:=by rw [(jD hp).1]; rfl
  refine aC (W_r (aK t9 h9 rfl rfl (mM t6 rfl rfl h6 rfl rfl rfl rfl rfl (aA rfl (aA rfl (R_e (aU ?_)))))))
  refine aCv (jO (u:=(V.agg [(iV ((nth ((nth (t.nx) (c.1).toNat)) (i)))),(V.bool (nth ((af0 t c i)) 0)),(V.bool (nth ((af0 t c i)) 1)),(V.bool (nth ((af0 t c i)) 2)),(V.bool (nth ((af0 t c i)) 3))])) t6 (@rfl Blk (bk 1 127 5 [[(iV ((nth ((nth (t.nx) (c.1).toNat)) (i)))),(V.bool (nth ((af0 t c i)) 0)),(V.bool (nth ((af0 t c i)) 1)),(V.bool (nth ((af0 t c i)) 2)),(V.bool (nth ((af0 t c i)) 3))]])) (lB oB rfl rfl)) (iQ (@rfl V (iV (-1:Int)))) (iQ (@rfl V (V.bool true))) (zJ (aQ ?_) (bU ?_) (bU ?_) (bU ?_) (bU ?_)) (aQ ?_) (bU ?_)
  · exact e4.symm
  · rw [e3]
  · rw [e3]
  · rw [e3]
  · rw [e3]
  · rw [(jD hp).2,d3]; rfl
  · exact hp.symm
 obtain ⟨d1,d2,d3⟩:=aHk c6
 have e3:(afP t c i).2=(af0 t c i).set (nth (nth t.st c.1.toNat) i).1.toNat (decide (0 < (nth (nth t.st c.1.toNat) i).2)):=by rw [(jD hp).1]; exact d2
 have e4:(afP t c i).1=nth (nth t.nx c.1.toNat) i:=by rw [(jD hp).1]; rfl
 refine aH (W_r (aP t11 h11 (aK rfl h11 rfl rfl (aP t11 h11 (aK rfl h11 rfl rfl (eU rfl rfl (aP t9 h9 ?_)))))))
 refine mX (i:=(((((nth ((nth (t.st) (c.1).toNat)) (i))).1)).toNat)) (o':=(1+(((((nth ((nth (t.st) (c.1).toNat)) (i))).1)).toNat))) (@rfl V (V.mp 9 1 0 1)) (Eq.trans (@rfl V (iV (((nth ((nth (t.st) (c.1).toNat)) (i))).1))) (qZ (by omega))) h9 oB (by omega) (by omega) (bQ (vs:=[(V.bool (decide ((0:Int) < (((nth ((nth (t.st) (c.1).toNat)) (i))).2))))]) (B':=(bk 1 127 5 [[(iV ((nth ((nth (t.nx) (c.1).toNat)) (i)))),(V.bool (nth ((af0 t c i).set (((((nth ((nth (t.st) (c.1).toNat)) (i))).1)).toNat) (decide (0 < (nth (nth t.st c.1.toNat) i).2))) 0)),(V.bool (nth ((af0 t c i).set (((((nth ((nth (t.st) (c.1).toNat)) (i))).1)).toNat) (decide (0 < (nth (nth t.st c.1.toNat) i).2))) 1)),(V.bool (nth ((af0 t c i).set (((((nth ((nth (t.st) (c.1).toNat)) (i))).1)).toNat) (decide (0 < (nth (nth t.st c.1.toNat) i).2))) 2)),(V.bool (nth ((af0 t c i).set (((((nth ((nth (t.st) (c.1).toNat)) (i))).1)).toNat) (decide (0 < (nth (nth t.st c.1.toNat) i).2))) 3))]])) rfl rfl rfl h9 (st4 (l:=(af0 t c i)) (by omega) (by omega)) (R_e (W_x (aK t9 rfl rfl rfl (aP t11 h11 (aK rfl h11 rfl rfl (aDF rfl rfl (by omega) (by omega) ?_)))))))
 refine aP t11 h11 (aK rfl h11 rfl rfl (jT rfl rfl (by omega) (by omega) (mM t6 rfl rfl h6 rfl rfl rfl rfl rfl (aA rfl (aA rfl (R_e ?_))))))
 refine ⟨by simp [ddB,apV,mI,aFL,t11,t6,t9],?_⟩
 refine bK ?_
 refine aCv (jO (u:=(V.agg [(iV ((nth ((nth (t.nx) (c.1).toNat)) (i)))),(V.bool (nth ((af0 t c i).set (((((nth ((nth (t.st) (c.1).toNat)) (i))).1)).toNat) (decide (0 < (nth (nth t.st c.1.toNat) i).2))) 0)),(V.bool (nth ((af0 t c i).set (((((nth ((nth (t.st) (c.1).toNat)) (i))).1)).toNat) (decide (0 < (nth (nth t.st c.1.toNat) i).2))) 1)),(V.bool (nth ((af0 t c i).set (((((nth ((nth (t.st) (c.1).toNat)) (i))).1)).toNat) (decide (0 < (nth (nth t.st c.1.toNat) i).2))) 2)),(V.bool (nth ((af0 t c i).set (((((nth ((nth (t.st) (c.1).toNat)) (i))).1)).toNat) (decide (0 < (nth (nth t.st c.1.toNat) i).2))) 3))])) t6 (@rfl Blk (bk 1 127 5 [[(iV ((nth ((nth (t.nx) (c.1).toNat)) (i)))),(V.bool (nth ((af0 t c i).set (((((nth ((nth (t.st) (c.1).toNat)) (i))).1)).toNat) (decide (0 < (nth (nth t.st c.1.toNat) i).2))) 0)),(V.bool (nth ((af0 t c i).set (((((nth ((nth (t.st) (c.1).toNat)) (i))).1)).toNat) (decide (0 < (nth (nth t.st c.1.toNat) i).2))) 1)),(V.bool (nth ((af0 t c i).set (((((nth ((nth (t.st) (c.1).toNat)) (i))).1)).toNat) (decide (0 < (nth (nth t.st c.1.toNat) i).2))) 2)),(V.bool (nth ((af0 t c i).set (((((nth ((nth (t.st) (c.1).toNat)) (i))).1)).toNat) (decide (0 < (nth (nth t.st c.1.toNat) i).2))) 3))]])) (lB oB rfl rfl)) (iQ (@rfl V (iV (((((nth ((nth (t.st) (c.1).toNat)) (i))).1)*(1001:Int))+(((nth ((nth (t.st) (c.1).toNat)) (i))).2))))) (iQ (@rfl V (V.bool true))) (zJ (aQ ?_) (bU ?_) (bU ?_) (bU ?_) (bU ?_)) (aQ ?_) (bU ?_)
 · exact e4.symm
 · rw [e3]
 · rw [e3]
 · rw [e3]
 · rw [e3]
 · rw [(jD hp).2,d3]; omega
 · exact hp.symm
end Go.Proofs.YtilfohjlglefjaaGreat
namespace Go.Proofs.YtilfohjlglefjaaGreat
open Go Go.Proofs
attribute [local irreducible] tN
theorem nV (t:TM):bB Tryz.prog 40 [(V.agg [(iV (t.i)),(iV (t.tm)),(iV (t.s)),(aB t.nx),(aB t.ot),(V.sl (List.map cSr (t.st)))])] (V.tup [(V.agg [(iV ((unM t).i)),(iV ((unM t).s)),(aB ((unM t).nx)),(aB ((unM t).ot))]),(iV (unE t))]):=by
 refine pW Tryz.func40 aHh fun hB=>?_
 unfold s40
 dsimp only
 refine W_r (eT (i:=1) (n:=0) (m:=6) (cs:=[(iV (t.i)),(iV (t.tm)),(iV (t.s)),(aB t.nx),(aB t.ot),(V.sl (List.map cSr (t.st)))]) rfl (congrArg Blk.ver rfl) rfl rfl rfl (cK (i:=2) (n:=0) (m:=4) rfl (congrArg Blk.ver rfl) rfl (aA rfl (R_e (aC (W_r (aK rfl rfl rfl rfl ?_)))))))
 refine bG (sY t) rfl (aA rfl (R_e (aC (W_r (aA rfl (dQ rfl rfl (R_e ?_)))))))
 refine aO rfl (fun c1=>?_) fun c1=>?_
 ·
  have d1:=c1
  refine aC (W_r (eM rfl rfl (aA rfl (bQ (vs:=[(iV (0:Int)),(iV (0:Int)),V.nilsl,V.nilsl]) (B':=(bk 1 24 4 [[(iV (0:Int)),(iV (0:Int)),V.nilsl,V.nilsl]])) rfl rfl rfl rfl (sB oB rfl rfl rfl rfl rfl) (aA rfl (R_e (aU ?_)))))))
  refine oJ (jO (u:=(V.agg [(iV (0:Int)),(iV (0:Int)),V.nilsl,V.nilsl])) rfl (@rfl Blk (bk 1 24 4 [[(iV (0:Int)),(iV (0:Int)),V.nilsl,V.nilsl]])) (lB oB rfl rfl)) (iQ (@rfl V (iV (cR t)))) (qD (dS (aQ ?_) (dS (aQ ?_) (dS (eY ?_) (dS (eY ?_) rfl))))) (aQ ?_)
  · rw [iR (by rw [aA5 d1]; first|decide|exact d1)]; try rfl
  · rw [iR (by rw [aA5 d1]; first|decide|exact d1)]; try rfl
  · rw [iR (by rw [aA5 d1]; first|decide|exact d1)]; try rfl
  · rw [iR (by rw [aA5 d1]; first|decide|exact d1)]; try rfl
  · rw [aA5 d1]
 have d1:=c1
 have ht:=uB (Decidable.not_not.1 c1)
 obtain ⟨g1,g2,g3,g4,g5,g6,g7,g8,g9,g10,g11,g12⟩:=id ht
 refine aH (W_r (aP rfl rfl (aK rfl rfl rfl rfl (aP rfl rfl (aK rfl rfl rfl rfl (jT rfl rfl (by omega) (by omega) (aA rfl ?_)))))))
 refine R_e (W_r (aP rfl rfl (aK rfl rfl rfl rfl (aDF rfl rfl (by omega) (by omega) (jT rfl rfl (by omega) (by omega) (aA rfl (R_e ?_)))))))
 refine W_r (aP rfl rfl (aK rfl rfl rfl rfl (eM rfl rfl (cK (i:=7) (n:=0) (m:=5) rfl (congrArg Blk.ver rfl) rfl (bQ (vs:=[(iV (t.s)),(V.bool false),(V.bool false),(V.bool false),(V.bool false)]) (B':=(bk 1 127 5 [[(iV (t.s)),(V.bool false),(V.bool false),(V.bool false),(V.bool false)]])) rfl rfl rfl rfl (sB oB rfl rfl rfl rfl rfl) (R_e (W_r ?_)))))))
 refine aKr (i:=39) (n:=0) (rows:=[[.nilp,.nilp]]) rfl (congrArg Blk.ver rfl) rfl (aK rfl rfl rfl rfl (aGW (B':=(bz 1 gI 2 (jK (ini t).l))) (@rfl V (V.mm 39 1)) (@rfl V (V.agg [(iV (t.s)),(V.bool false),(V.bool false),(V.bool false),(V.bool false)])) (@rfl V (iV (0:Int))) (@rfl Blk (bz 1 gI 2 ([[.nilp,.nilp]]))) (aTL ht) (aA rfl (aA rfl (R_e (W_r (aK rfl rfl rfl rfl ?_)))))))
 refine pC (i:=43) (n:=0) (qs:=[(0,(V.agg [(iV (t.s)),(V.bool false),(V.bool false),(V.bool false),(V.bool false)]))]) (rows:=[[(iV (t.s)),(V.bool false),(V.bool false),(V.bool false),(V.bool false)]]) rfl (congrArg Blk.ver rfl) (dS (congrArg (fun v=>(0,v)) rfl) rfl) rfl (aA rfl (R_e (W_r (aA rfl (eM rfl rfl (cK (i:=10) (n:=0) (m:=4) rfl (congrArg Blk.ver rfl) rfl (bQ (vs:=[(iV ((t.i)+(t.tm))),(iV (0:Int)),V.nilsl,V.nilsl]) (B':=(bk 1 24 4 [[(iV ((t.i)+(t.tm))),(iV (0:Int)),V.nilsl,V.nilsl]])) rfl rfl rfl rfl (sB oB rfl rfl rfl rfl rfl) ?_)))))))
 refine R_e (aC ?_)
 refine aAb (fun T H=>T 1=(V.mp 1 1 0 0)∧T 2=(V.mp 2 1 0 0)∧T 5=(iV ((t.i)+(t.tm)))∧T 6=(iV ((1:Int)+((t.tm)*(1001:Int))))∧T 8=(V.mm 39 1)∧T 9=(V.ms 43 1 0 (1))∧T 10=(V.mp 10 1 0 0)∧T 11=(iV (0:Int))∧H 1=(bk 1 29 6 [[(iV (t.i)),(iV (t.tm)),(iV (t.s)),(aB t.nx),(aB t.ot),(V.sl (List.map cSr (t.st)))]])∧H 2=(bk 1 24 4 [[(iV (0:Int)),(iV (0:Int)),V.nilsl,V.nilsl]])∧H 7=(bk 1 127 5 [[(iV (t.s)),(V.bool false),(V.bool false),(V.bool false),(V.bool false)]])∧H 10=(bk 1 24 4 [[(iV ((t.i)+(t.tm))),(iV (0:Int)),V.nilsl,V.nilsl]])∧H 15=(⟨0,false,false,0,0,[]⟩:Blk)∧H 39=(bz 1 gI 2 (jK (ini t).l))∧H 43=(bk 1 127 5 [[(iV (t.s)),(V.bool false),(V.bool false),(V.bool false),(V.bool false)]])∧H 53=(⟨0,false,false,0,0,[]⟩:Blk)∧H 55=(⟨0,false,false,0,0,[]⟩:Blk)∧H 812=(⟨0,false,false,0,0,[]⟩:Blk)∧H 813=(⟨0,false,false,0,0,[]⟩:Blk)∧True) ?_ ?_
 ·
  refine aA rfl ?_
  exact iK ⟨rfl,rfl,rfl,rfl,rfl,rfl,rfl,rfl,rfl,rfl,rfl,rfl,rfl,rfl,rfl,rfl,rfl,rfl,rfl,trivial⟩
 intro T H ⟨t1,t2,t5,t6,t8,t9,t10,t11,h1,h2,h7,h10,h15,h39,h43,h53,h55,h812,h813,_⟩
 refine .lazyCell 812 38 1 10 0 2 [(iV ((t.i)+(t.tm))),(iV (0:Int)),V.nilsl,V.nilsl] (by decide) (by rw [h10]; rfl) (by rw [h10]; rfl) rfl (dE (R:=fun T H=>T 1=(V.mp 1 1 0 0)∧T 2=(V.mp 2 1 0 0)∧T 5=(iV ((t.i)+(t.tm)))∧T 6=(iV ((1:Int)+((t.tm)*(1001:Int))))∧T 8=(V.mm 39 1)∧T 9=(V.ms 43 1 0 (1))∧T 10=(V.mp 10 1 0 0)∧T 11=(iV (0:Int))∧H 1=(bk 1 29 6 [[(iV (t.i)),(iV (t.tm)),(iV (t.s)),(aB t.nx),(aB t.ot),(V.sl (List.map cSr (t.st)))]])∧H 2=(bk 1 24 4 [[(iV (0:Int)),(iV (0:Int)),V.nilsl,V.nilsl]])∧H 7=(bk 1 127 5 [[(iV (t.s)),(V.bool false),(V.bool false),(V.bool false),(V.bool false)]])∧H 10=(bk 1 24 4 [[(iV ((t.i)+(t.tm))),(iV (0:Int)),(V.ms 812 1 0 (0)),V.nilsl]])∧H 15=(⟨0,false,false,0,0,[]⟩:Blk)∧H 39=(bz 1 gI 2 (jK (ini t).l))∧H 43=(bk 1 127 5 [[(iV (t.s)),(V.bool false),(V.bool false),(V.bool false),(V.bool false)]])∧H 53=(⟨0,false,false,0,0,[]⟩:Blk)∧H 55=(⟨0,false,false,0,0,[]⟩:Blk)∧H 812=(bz 1 38 1 [])∧H 813=(⟨0,false,false,0,0,[]⟩:Blk)∧True) ⟨t1,t2,t5,t6,t8,t9,t10,t11,((aG _ _ (by decide)).trans ((aG _ _ (by decide)).trans h1)),((aG _ _ (by decide)).trans ((aG _ _ (by decide)).trans h2)),((aG _ _ (by decide)).trans ((aG _ _ (by decide)).trans h7)),(by rw [aE,h10,(congrArg Blk.ver h812)]; rfl),((aG _ _ (by decide)).trans ((aG _ _ (by decide)).trans h15)),((aG _ _ (by decide)).trans ((aG _ _ (by decide)).trans h39)),((aG _ _ (by decide)).trans ((aG _ _ (by decide)).trans h43)),((aG _ _ (by decide)).trans ((aG _ _ (by decide)).trans h53)),((aG _ _ (by decide)).trans ((aG _ _ (by decide)).trans h55)),(by rw [aG _ _ (by decide),aE,(congrArg Blk.ver h812)]),((aG _ _ (by decide)).trans ((aG _ _ (by decide)).trans h813)),trivial⟩ ?_)
 intro T H ⟨t1,t2,t5,t6,t8,t9,t10,t11,h1,h2,h7,h10,h15,h39,h43,h53,h55,h812,h813,_⟩
 refine .lazyCell 813 38 1 10 0 3 [(iV ((t.i)+(t.tm))),(iV (0:Int)),(V.ms 812 1 0 (0)),V.nilsl] (by decide) (by rw [h10]; rfl) (by rw [h10]; rfl) rfl (.done ?_)
 refine dE (R:=fun T H=>T 1=(V.mp 1 1 0 0)∧T 2=(V.mp 2 1 0 0)∧T 5=(iV ((t.i)+(t.tm)))∧T 6=(iV ((1:Int)+((t.tm)*(1001:Int))))∧T 8=(V.mm 39 1)∧T 9=(V.ms 43 1 0 (1))∧T 10=(V.mp 10 1 0 0)∧T 11=(iV (0:Int))∧H 1=(bk 1 29 6 [[(iV (t.i)),(iV (t.tm)),(iV (t.s)),(aB t.nx),(aB t.ot),(V.sl (List.map cSr (t.st)))]])∧H 2=(bk 1 24 4 [[(iV (0:Int)),(iV (0:Int)),V.nilsl,V.nilsl]])∧H 7=(bk 1 127 5 [[(iV (t.s)),(V.bool false),(V.bool false),(V.bool false),(V.bool false)]])∧H 10=(bk 1 24 4 [[(iV ((t.i)+(t.tm))),(iV (0:Int)),(V.ms 812 1 0 (0)),(V.ms 813 1 0 (0))]])∧H 15=(⟨0,false,false,0,0,[]⟩:Blk)∧H 39=(bz 1 gI 2 (jK (ini t).l))∧H 43=(bk 1 127 5 [[(iV (t.s)),(V.bool false),(V.bool false),(V.bool false),(V.bool false)]])∧H 53=(⟨0,false,false,0,0,[]⟩:Blk)∧H 55=(⟨0,false,false,0,0,[]⟩:Blk)∧H 812=(bz 1 38 1 [])∧H 813=(bz 1 38 1 [])∧True) ⟨t1,t2,t5,t6,t8,t9,t10,t11,((aG _ _ (by decide)).trans ((aG _ _ (by decide)).trans h1)),((aG _ _ (by decide)).trans ((aG _ _ (by decide)).trans h2)),((aG _ _ (by decide)).trans ((aG _ _ (by decide)).trans h7)),(by rw [aE,h10,(congrArg Blk.ver h813)]; rfl),((aG _ _ (by decide)).trans ((aG _ _ (by decide)).trans h15)),((aG _ _ (by decide)).trans ((aG _ _ (by decide)).trans h39)),((aG _ _ (by decide)).trans ((aG _ _ (by decide)).trans h43)),((aG _ _ (by decide)).trans ((aG _ _ (by decide)).trans h53)),((aG _ _ (by decide)).trans ((aG _ _ (by decide)).trans h55)),((aG _ _ (by decide)).trans ((aG _ _ (by decide)).trans h812)),(by rw [aG _ _ (by decide),aE,(congrArg Blk.ver h813)]),trivial⟩ ?_
 intro T H ⟨t1,t2,t5,t6,t8,t9,t10,t11,h1,h2,h7,h10,h15,h39,h43,h53,h55,h812,h813,_⟩
 refine aI fun Q2 n2 x2 y2 z2=>?_
 refine cW (fun mm T H=> ∃ (k:Nat) (U:UM) (v0:Nat) (v1:Nat) (v2:Nat) (v15:Nat) (v53:Nat) (v55:Nat),mm=129 - k∧T 1=(V.mp 1 1 0 0)∧T 2=(V.mp 2 1 0 0)∧T 5=(iV ((t.i)+(t.tm)))∧T 6=(iV ((1:Int)+((t.tm)*(1001:Int))))∧T 8=(V.mm 39 1)∧T 9=(V.ms 43 v0 0 (U.l.length))∧T 10=(V.mp 10 1 0 0)∧T 11=(iV ((k:Nat):Int))∧H 1=(bk 1 29 6 [[(iV (t.i)),(iV (t.tm)),(iV (t.s)),(aB t.nx),(aB t.ot),(V.sl (List.map cSr (t.st)))]])∧H 2=(bk 1 24 4 [[(iV (0:Int)),(iV (0:Int)),V.nilsl,V.nilsl]])∧H 7=(bk 1 127 5 [[(iV (t.s)),(V.bool false),(V.bool false),(V.bool false),(V.bool false)]])∧H 10=(bk 1 24 4 [[(iV (t.i+t.tm)),(iV (0:Int)),(V.ms 812 v1 0 (U.nx.length)),(V.ms 813 v2 0 (U.ot.length))]])∧((H 15).ver=v15∧(H 15).live=false)∧H 39=(bz 1 gI 2 (jK U.l))∧H 43=(bk v0 127 5 (List.map cC4 (U.l)))∧((H 53).ver=v53∧(H 53).live=false)∧((H 55).ver=v55∧(H 55).live=false)∧H 812=(bz v1 38 1 (List.map cL (U.nx)))∧H 813=(bz v2 38 1 (List.map cL (U.ot)))∧(k≤U.l.length)∧(UOK t U.l)∧(U.l.Nodup)∧(U.nx.length=k∧U.ot.length=k)∧(unX t=gQ t (129 - k) k U)) ?_ ?_
 ·
  refine ⟨_,0,(ini t),1,1,1,0,0,0,rfl,t1,t2,t5,t6,t8,(Eq.trans t9 (by first|rfl|(rw [e18]; done)|(rw [e19]; done)|(rw [d7]; done)|(rw [e7,List.length_append]; rfl)|(rw [e7]; done)|simp)),t10,(Eq.trans t11 rfl),h1,h2,h7,(Eq.trans h10 (by first|rfl|(rw [eK ht]; done)|(rw [eK ht]; rfl)|(rw [e7,List.map_append]; rfl)|(rw [e7]; done)|(rw [e7]; rfl)|simp)),⟨(congrArg Blk.ver h15),congrArg Blk.live h15⟩,(Eq.trans h39 (by first|rfl|(rw [eK ht]; done)|(rw [eK ht]; rfl)|(rw [e7,List.map_append]; rfl)|(rw [e7]; done)|(rw [e7]; rfl)|simp)),(Eq.trans h43 (by first|rfl|(rw [eK ht]; done)|(rw [eK ht]; rfl)|(rw [e7,List.map_append]; rfl)|(rw [e7]; done)|(rw [e7]; rfl)|simp)),⟨(congrArg Blk.ver h53),congrArg Blk.live h53⟩,⟨(congrArg Blk.ver h55),congrArg Blk.live h55⟩,(Eq.trans h812 (by first|rfl|(rw [eK ht]; done)|(rw [eK ht]; rfl)|(rw [e7,List.map_append]; rfl)|(rw [e7]; done)|(rw [e7]; rfl)|simp)),(Eq.trans h813 (by first|rfl|(rw [eK ht]; done)|(rw [eK ht]; rfl)|(rw [e7,List.map_append]; rfl)|(rw [e7]; done)|(rw [e7]; rfl)|simp)),?_,?_,?_,?_,?_⟩
  · exact Nat.zero_le _
  · exact oX ht
  · exact aNB t
  · exact ⟨rfl,rfl⟩
  · rfl
 intro mm T H ⟨k,U,v0,v1,v2,v15,v53,v55,hmm,t1,t2,t5,t6,t8,t9,t10,t11,h1,h2,h7,h10,h15,h39,h43,h53,h55,h812,h813,hk,hu,hnd,hl,hc⟩ Q3 p13 p23 p33
 unfold aKU
 refine aC (W_r (aA t11 (aA t9 (eP rfl h43 (by first|rfl|simp) (bR rfl rfl (R_e ?_))))))
 refine aO rfl (fun c4=>?_) fun c4=>?_
 ·
  have gl:=hu.len
  refine aH (aI fun Q5 n5 x5 y5 z5=>(W_r (aA t5 (oY (i:=53) (n:=v53) (m:=0) (q:=(((t.i)+(t.tm)).toNat)) (f:=cI) (x:=0) rfl (h53).1 (@rfl V (iV (0:Int))) (Eq.trans (@rfl V (iV ((t.i)+(t.tm)))) (congrArg (V.int .i64) (by omega))) rfl (by omega) (by omega) (by omega) (aA t5 (oY (i:=55) (n:=v55) (m:=0) (q:=(((t.i)+(t.tm)).toNat)) (f:=cI) (x:=0) rfl (h55).1 (@rfl V (iV (0:Int))) (Eq.trans (@rfl V (iV ((t.i)+(t.tm)))) (congrArg (V.int .i64) (by omega))) rfl (by omega) (by omega) (by omega) (aA rfl ?_)))))))
  refine aA rfl (R_e (aC (W_r (aA t5 (aA rfl (R_e (aI fun Q6 n6 x6 y6 z6=>?_)))))))
  refine cW (fun mm T H=> ∃ (i:Nat) (S:US) (w0:Nat) (w1:Nat) (w2:Nat) (v15:Nat),mm=(t.i+t.tm).toNat - i∧T 1=(V.mp 1 1 0 0)∧T 2=(V.mp 2 1 0 0)∧T 5=(iV ((t.i)+(t.tm)))∧T 6=(iV ((1:Int)+((t.tm)*(1001:Int))))∧T 8=(V.mm 39 1)∧T 9=(V.ms 43 w0 0 (S.l.length))∧T 10=(V.mp 10 1 0 0)∧T 11=(iV ((k:Nat):Int))∧T 12=(V.ms 53 w1 0 (S.a.length))∧T 13=(V.ms 55 w2 0 (S.b.length))∧T 56=(iV ((t.i)+(t.tm)))∧T 57=(iV ((i:Nat):Int))∧H 1=(bk 1 29 6 [[(iV (t.i)),(iV (t.tm)),(iV (t.s)),(aB t.nx),(aB t.ot),(V.sl (List.map cSr (t.st)))]])∧H 2=(bk 1 24 4 [[(iV (0:Int)),(iV (0:Int)),V.nilsl,V.nilsl]])∧H 7=(bk 1 127 5 [[(iV (t.s)),(V.bool false),(V.bool false),(V.bool false),(V.bool false)]])∧H 10=(bk 1 24 4 [[(iV (t.i+t.tm)),(iV (0:Int)),(V.ms 812 v1 0 (U.nx.length)),(V.ms 813 v2 0 (U.ot.length))]])∧((H 15).ver=v15∧(H 15).live=false)∧H 39=(bz 1 gI 2 (jK S.l))∧H 43=(bk w0 127 5 (List.map cC4 (S.l)))∧H 53=(bk w1 3 1 (List.map cI (S.a)))∧H 55=(bk w2 3 1 (List.map cI (S.b)))∧H 812=(bz v1 38 1 (List.map cL (U.nx)))∧H 813=(bz v2 38 1 (List.map cL (U.ot)))∧(i≤(t.i+t.tm).toNat)∧(UOK t S.l)∧(S.l.Nodup)∧(nth S.l k=nth U.l k∧U.l.length≤S.l.length)∧(S.a.length=i∧S.b.length=i)∧(dN t k (t.i+t.tm).toNat 0 ⟨U.l,[],[]⟩=dN t k ((t.i+t.tm).toNat - i) i S)) ?_ ?_
  ·
   refine ⟨_,0,⟨U.l,[],[]⟩,v0,(v53+1),(v55+1),v15,rfl,t1,t2,t5,t6,t8,(Eq.trans t9 (by first|rfl|(rw [e18]; done)|(rw [e19]; done)|(rw [d7]; done)|(rw [e7,List.length_append]; rfl)|(rw [e7]; done)|simp)),t10,t11,(Eq.trans (@rfl V (V.ms 53 (v53+1) 0 (0))) (by first|rfl|(rw [e18]; done)|(rw [e19]; done)|(rw [d7]; done)|(rw [e7,List.length_append]; rfl)|(rw [e7]; done)|simp)),(Eq.trans (@rfl V (V.ms 55 (v55+1) 0 (0))) (by first|rfl|(rw [e18]; done)|(rw [e19]; done)|(rw [d7]; done)|(rw [e7,List.length_append]; rfl)|(rw [e7]; done)|simp)),rfl,(Eq.trans (@rfl V (iV (0:Int))) rfl),h1,h2,h7,h10,h15,(Eq.trans h39 (by first|rfl|(rw [eK ht]; done)|(rw [eK ht]; rfl)|(rw [e7,List.map_append]; rfl)|(rw [e7]; done)|(rw [e7]; rfl)|simp)),(Eq.trans h43 (by first|rfl|(rw [eK ht]; done)|(rw [eK ht]; rfl)|(rw [e7,List.map_append]; rfl)|(rw [e7]; done)|(rw [e7]; rfl)|simp)),(Eq.trans (@rfl Blk (bk (v53+1) 3 1 (List.map cI (List.replicate 0 0)))) (by first|rfl|(rw [eK ht]; done)|(rw [eK ht]; rfl)|(rw [e7,List.map_append]; rfl)|(rw [e7]; done)|(rw [e7]; rfl)|simp)),(Eq.trans (@rfl Blk (bk (v55+1) 3 1 (List.map cI (List.replicate 0 0)))) (by first|rfl|(rw [eK ht]; done)|(rw [eK ht]; rfl)|(rw [e7,List.map_append]; rfl)|(rw [e7]; done)|(rw [e7]; rfl)|simp)),h812,h813,?_,?_,?_,?_,?_,?_⟩
   · exact Nat.zero_le _
   · exact hu
   · exact hnd
   · exact ⟨rfl,Nat.le_refl _⟩
   · exact ⟨rfl,rfl⟩
   · rfl
  intro mm T H ⟨i,S,w0,w1,w2,v15,hmm,t1,t2,t5,t6,t8,t9,t10,t11,t12,t13,t56,t57,h1,h2,h7,h10,h15,h39,h43,h53,h55,h812,h813,hi,hs,hsn,hsl,hab,hr⟩ Q7 p17 p27 p37
  unfold aK7
  refine W_r (bR t57 t56 (R_e ?_))
  refine aO rfl (fun c8=>?_) fun c8=>?_
  ·
   have cok:=hs.at (k:=k) (by omega)
   have hsm:=hs.len
   have gr:=(g12 (nth S.l k).1.toNat (by have:=cok.1; have:=cok.2.1; omega))
   have gx:=gr.2.2.2 i (by omega)
   have ca:=cok.1
   have cb:=cok.2.1
   have hM:=aAU (o:=nth (nth t.ot (nth S.l k).1.toNat) i) (tm:=t.tm) ⟨gx.2.2.1,gx.2.2.2.1⟩ ⟨g3,g4⟩
   have hA:=aEs ht cok (show (i:Int) < t.i+t.tm by omega)
   have aok:=aQG ht cok (show (i:Int) < t.i+t.tm by omega)
   have hpl:=aF7 S.l (afP t (nth S.l k) i)
   have p4:=hs.len4 ht aok
   refine aH (aI fun Q9 n9 x9 y9 z9=>(W_r (aA t57 (aA rfl (R_e (W_d (by exact (lV (h15).2 wM)) (aK t1 h1 rfl rfl ?_)))))))
   refine aA t9 (aA t11 (dB (i:=k) (@rfl V (V.ms 43 w0 0 (S.l.length))) (@rfl V (iV ((k:Nat):Int))) h43 oB rfl (by omega) (bT (v:=(V.agg [(iV (((nth (S.l) (k))).1)),(V.bool (nth (((nth (S.l) (k))).2) 0)),(V.bool (nth (((nth (S.l) (k))).2) 1)),(V.bool (nth (((nth (S.l) (k))).2) 2)),(V.bool (nth (((nth (S.l) (k))).2) 3))])) rfl h43 (dW (by omega) (by first|rfl|(rw [cF_eq]; rfl)|simp [ldV,V.one])) (aA rfl (bG (aBE t (((nth (S.l) (k)))) i ht cok (by omega)) rfl (aA rfl (eR rfl rfl ?_)))))))
   refine eR rfl rfl (eR rfl rfl (cK (i:=15) (n:=v15) (m:=5) rfl (h15).1 rfl (bQ (vs:=[(iV (((afP t (((nth (S.l) (k)))) i)).1)),(V.bool (nth (((afP t (((nth (S.l) (k)))) i)).2) 0)),(V.bool (nth (((afP t (((nth (S.l) (k)))) i)).2) 1)),(V.bool (nth (((afP t (((nth (S.l) (k)))) i)).2) 2)),(V.bool (nth (((afP t (((nth (S.l) (k)))) i)).2) 3))]) (B':=(bk (v15+1) 127 5 [[(iV (((afP t (((nth (S.l) (k)))) i)).1)),(V.bool (nth (((afP t (((nth (S.l) (k)))) i)).2) 0)),(V.bool (nth (((afP t (((nth (S.l) (k)))) i)).2) 1)),(V.bool (nth (((afP t (((nth (S.l) (k)))) i)).2) 2)),(V.bool (nth (((afP t (((nth (S.l) (k)))) i)).2) 3))]])) rfl rfl rfl rfl (sB oB rfl rfl rfl rfl rfl) (aA rfl (aA rfl (R_e (W_r ?_)))))))
   refine aA rfl (R_e (aC (W_r (aA rfl (R_e ?_)))))
   refine nA (fun T H=>T 1=(V.mp 1 1 0 0)∧T 2=(V.mp 2 1 0 0)∧T 5=(iV ((t.i)+(t.tm)))∧T 6=(iV ((1:Int)+((t.tm)*(1001:Int))))∧T 8=(V.mm 39 1)∧T 9=(V.ms 43 w0 0 (S.l.length))∧T 10=(V.mp 10 1 0 0)∧T 11=(iV ((k:Nat):Int))∧T 12=(V.ms 53 w1 0 (S.a.length))∧T 13=(V.ms 55 w2 0 (S.b.length))∧T 15=(V.mp 15 (v15+1) 0 0)∧T 56=(iV ((t.i)+(t.tm)))∧T 57=(iV ((i:Nat):Int))∧T 18=(iV (unP t (nth S.l k) i))∧H 1=(bk 1 29 6 [[(iV (t.i)),(iV (t.tm)),(iV (t.s)),(aB t.nx),(aB t.ot),(V.sl (List.map cSr (t.st)))]])∧H 2=(bk 1 24 4 [[(iV (0:Int)),(iV (0:Int)),V.nilsl,V.nilsl]])∧H 7=(bk 1 127 5 [[(iV (t.s)),(V.bool false),(V.bool false),(V.bool false),(V.bool false)]])∧H 10=(bk 1 24 4 [[(iV (t.i+t.tm)),(iV (0:Int)),(V.ms 812 v1 0 (U.nx.length)),(V.ms 813 v2 0 (U.ot.length))]])∧H 15=(bk (v15+1) 127 5 [[(iV (((afP t (((nth (S.l) (k)))) i)).1)),(V.bool (nth (((afP t (((nth (S.l) (k)))) i)).2) 0)),(V.bool (nth (((afP t (((nth (S.l) (k)))) i)).2) 1)),(V.bool (nth (((afP t (((nth (S.l) (k)))) i)).2) 2)),(V.bool (nth (((afP t (((nth (S.l) (k)))) i)).2) 3))]])∧H 39=(bz 1 gI 2 (jK S.l))∧H 43=(bk w0 127 5 (List.map cC4 (S.l)))∧H 53=(bk w1 3 1 (List.map cI (S.a)))∧H 55=(bk w2 3 1 (List.map cI (S.b)))∧H 812=(bz v1 38 1 (List.map cL (U.nx)))∧H 813=(bz v2 38 1 (List.map cL (U.ot)))∧True) (fun Q10 n10 y10 z10=>?_) ?_
   ·
    refine aDv rfl (fun c11=>?_) (fun c11=>?_)
    ·
     have d3:psB t (nth S.l k) i=true:=c11
     have e3:=(jD d3).2
     have hM2:0≤nth (nth t.ot (nth S.l k).1.toNat) i*(1+t.tm*1001)∧nth (nth t.ot (nth S.l k).1.toNat) i*(1+t.tm*1001)≤4199546880:=hM
     have e18:2+nth (nth t.ot (nth S.l k).1.toNat) i*(1+t.tm*1001)+afD t (nth S.l k) i=unP t (nth S.l k) i:=by rw [tU d3,e3]; unfold unO sgK; omega
     refine W_t (aP t1 h1 (aK rfl h1 rfl rfl (aA t9 (aA t11 (dB (i:=k) (@rfl V (V.ms 43 w0 0 (S.l.length))) (@rfl V (iV ((k:Nat):Int))) h43 oB rfl (by omega) (aP rfl h43 (bT (v:=(iV (((nth (S.l) (k))).1))) rfl h43 (dW (by omega) (by first|rfl|(rw [cF_eq]; rfl)|simp [ldV,V.one])) ?_)))))))
     refine gU (i:=(((nth (S.l) (k))).1)) (@rfl V (aB t.ot)) (@rfl V (iV (((nth (S.l) (k))).1))) (by omega) (by omega) rfl (aJ rfl rfl (aA rfl (bL (i:=i) (@rfl V (aS ((nth (t.ot) (((nth (S.l) (k))).1).toNat)))) (@rfl V (iV ((i:Nat):Int))) (by omega) rfl (aJ rfl rfl (aA t6 (aDF rfl rfl (by omega) (by omega) (jT rfl rfl (by omega) (by omega) ?_)))))))
     refine aA rfl (jT rfl rfl (by omega) (by omega) (aA rfl (R_e ?_)))
     exact n10 _ _ ⟨t1,t2,t5,t6,t8,t9,t10,t11,t12,t13,rfl,t56,t57,(Eq.trans (@rfl V (iV (((2:Int)+(((nth ((nth (t.ot) (((nth (S.l) (k))).1).toNat)) (i)))*((1:Int)+((t.tm)*(1001:Int)))))+(afD t (((nth (S.l) (k)))) i)))) (by first|rfl|(rw [e18]; done)|(rw [e19]; done)|(rw [d7]; done)|(rw [e7,List.length_append]; rfl)|(rw [e7]; done)|simp)),h1,h2,h7,h10,rfl,h39,h43,h53,h55,h812,h813,trivial⟩
    have d3:psB t (nth S.l k) i=false:=by simpa using c11
    have e18:=(aCX d3).symm
    refine cX ?_
    exact n10 _ _ ⟨t1,t2,t5,t6,t8,t9,t10,t11,t12,t13,rfl,t56,t57,(Eq.trans (@rfl V (iV (0:Int))) (by first|rfl|(rw [e18]; done)|(rw [e19]; done)|(rw [d7]; done)|(rw [e7,List.length_append]; rfl)|(rw [e7]; done)|simp)),h1,h2,h7,h10,rfl,h39,h43,h53,h55,h812,h813,trivial⟩
   intro T H ⟨t1,t2,t5,t6,t8,t9,t10,t11,t12,t13,t15,t56,t57,t18,h1,h2,h7,h10,h15,h39,h43,h53,h55,h812,h813,_⟩
   refine aC (W_r (aA t18 (eU rfl rfl (R_e ?_))))
   refine aO rfl (fun c12=>?_) fun c12=>?_
   ·
    have hx:=hc.trans (vM (by omega) (by omega) (hr.trans (aGu (by omega) c12)) (by decide))
    refine aC (W_r (eM rfl rfl (bQ (vs:=[(iV (0:Int)),(iV (0:Int)),V.nilsl,V.nilsl]) (B':=(bk 1 24 4 [[(iV (0:Int)),(iV (0:Int)),V.nilsl,V.nilsl]])) t2 rfl rfl h2 (sB oB rfl rfl rfl rfl rfl) (aA rfl (R_e (aU (y9 _ _ ?_)))))))
    refine p27 _ _ (y6 _ _ (y5 _ _ (p23 _ _ (y2 _ _ ?_))))
    refine oJ (jO (u:=(V.agg [(iV (0:Int)),(iV (0:Int)),V.nilsl,V.nilsl])) t2 (@rfl Blk (bk 1 24 4 [[(iV (0:Int)),(iV (0:Int)),V.nilsl,V.nilsl]])) (lB oB rfl rfl)) (iQ (@rfl V (iV (2:Int)))) (qD (dS (aQ ?_) (dS (aQ ?_) (dS (eY ?_) (dS (eY ?_) rfl))))) (aQ ?_)
    · rw [iR (by rw [lW d1 hx]; first|decide|exact d1)]; try rfl
    · rw [iR (by rw [lW d1 hx]; first|decide|exact d1)]; try rfl
    · rw [iR (by rw [lW d1 hx]; first|decide|exact d1)]; try rfl
    · rw [iR (by rw [lW d1 hx]; first|decide|exact d1)]; try rfl
    · rw [lW d1 hx]
   have d5: ¬1048576 < unP t (nth S.l k) i:=c12
   refine aH (W_r (aA t8 (aK t15 h15 rfl rfl (aJ7 (z:=(iV (0:Int))) (u:=(iV ((if plc S.l (afP t (nth S.l k) i)=S.l.length then 0 else ((plc S.l (afP t (nth S.l k) i):Nat):Int))))) (f:=decide (¬plc S.l (afP t (nth S.l k) i)=S.l.length)) (@rfl V (V.mm 39 1)) (@rfl V (V.agg [(iV (((afP t (((nth (S.l) (k)))) i)).1)),(V.bool (nth (((afP t (((nth (S.l) (k)))) i)).2) 0)),(V.bool (nth (((afP t (((nth (S.l) (k)))) i)).2) 1)),(V.bool (nth (((afP t (((nth (S.l) (k)))) i)).2) 2)),(V.bool (nth (((afP t (((nth (S.l) (k)))) i)).2) 3))])) h39 (aRn (c:=(afP t (nth S.l k) i)) p4.1 p4.2) (aA rfl (eR rfl rfl (eR rfl rfl ?_)))))))
   refine aA rfl (aA rfl (R_e (aC (W_r (aA rfl (aGP rfl (R_e ?_)))))))
   refine nA (fun T H=> ∃ (w4:Nat),T 1=(V.mp 1 1 0 0)∧T 2=(V.mp 2 1 0 0)∧T 5=(iV ((t.i)+(t.tm)))∧T 6=(iV ((1:Int)+((t.tm)*(1001:Int))))∧T 8=(V.mm 39 1)∧T 10=(V.mp 10 1 0 0)∧T 11=(iV ((k:Nat):Int))∧T 12=(V.ms 53 w1 0 (S.a.length))∧T 13=(V.ms 55 w2 0 (S.b.length))∧T 18=(iV (unP t (nth S.l k) i))∧T 56=(iV ((t.i)+(t.tm)))∧T 57=(iV ((i:Nat):Int))∧T 19=(iV ((plc S.l (afP t (nth S.l k) i):Nat):Int))∧T 9=(V.ms 43 w4 0 ((cQ S.l (afP t (nth S.l k) i)).length))∧H 1=(bk 1 29 6 [[(iV (t.i)),(iV (t.tm)),(iV (t.s)),(aB t.nx),(aB t.ot),(V.sl (List.map cSr (t.st)))]])∧H 2=(bk 1 24 4 [[(iV (0:Int)),(iV (0:Int)),V.nilsl,V.nilsl]])∧H 7=(bk 1 127 5 [[(iV (t.s)),(V.bool false),(V.bool false),(V.bool false),(V.bool false)]])∧H 10=(bk 1 24 4 [[(iV (t.i+t.tm)),(iV (0:Int)),(V.ms 812 v1 0 (U.nx.length)),(V.ms 813 v2 0 (U.ot.length))]])∧H 15=(bk (v15+1) 127 5 [[(iV (((afP t (((nth (S.l) (k)))) i)).1)),(V.bool (nth (((afP t (((nth (S.l) (k)))) i)).2) 0)),(V.bool (nth (((afP t (((nth (S.l) (k)))) i)).2) 1)),(V.bool (nth (((afP t (((nth (S.l) (k)))) i)).2) 2)),(V.bool (nth (((afP t (((nth (S.l) (k)))) i)).2) 3))]])∧H 39=(bz 1 gI 2 (jK (cQ S.l (afP t (nth S.l k) i))))∧H 43=(bk w4 127 5 (List.map cC4 (cQ S.l (afP t (nth S.l k) i))))∧H 53=(bk w1 3 1 (List.map cI (S.a)))∧H 55=(bk w2 3 1 (List.map cI (S.b)))∧H 812=(bz v1 38 1 (List.map cL (U.nx)))∧H 813=(bz v2 38 1 (List.map cL (U.ot)))∧(¬(plc S.l (afP t (nth S.l k) i)=S.l.length∧plc S.l (afP t (nth S.l k) i)=128))∧True) (fun Q13 n13 y13 z13=>?_) ?_
   ·
    refine fR rfl (fun c14=>?_) fun c14=>?_
    ·
     have d7:plc S.l (afP t (nth S.l k) i)=S.l.length:=Decidable.not_not.1 c14
     have e7:cQ S.l (afP t (nth S.l k) i)=S.l++[(afP t (nth S.l k) i)]:=if_pos d7
     refine W_r (aA t9 (eP rfl h43 (by first|rfl|simp) (aA rfl (R_e (aC (W_r (aA rfl ?_)))))))
     refine jL rfl rfl (R_e ?_)
     refine aO rfl (fun c15=>?_) fun c15=>?_
     ·
      have hx:=hc.trans (vM (by omega) (by omega) (hr.trans (aGY (by omega) d5 (by omega) hsn ⟨d7,by omega⟩)) (by decide))
      refine aC (W_r (eM rfl rfl (bQ (vs:=[(iV (0:Int)),(iV (0:Int)),V.nilsl,V.nilsl]) (B':=(bk 1 24 4 [[(iV (0:Int)),(iV (0:Int)),V.nilsl,V.nilsl]])) t2 rfl rfl h2 (sB oB rfl rfl rfl rfl rfl) (aA rfl (R_e (aU (y13 _ _ ?_)))))))
      refine y9 _ _ (p27 _ _ (y6 _ _ (y5 _ _ (p23 _ _ (y2 _ _ ?_)))))
      refine oJ (jO (u:=(V.agg [(iV (0:Int)),(iV (0:Int)),V.nilsl,V.nilsl])) t2 (@rfl Blk (bk 1 24 4 [[(iV (0:Int)),(iV (0:Int)),V.nilsl,V.nilsl]])) (lB oB rfl rfl)) (iQ (@rfl V (iV (11:Int)))) (qD (dS (aQ ?_) (dS (aQ ?_) (dS (eY ?_) (dS (eY ?_) rfl))))) (aQ ?_)
      · rw [iR (by rw [lW d1 hx]; first|decide|exact d1)]; try rfl
      · rw [iR (by rw [lW d1 hx]; first|decide|exact d1)]; try rfl
      · rw [iR (by rw [lW d1 hx]; first|decide|exact d1)]; try rfl
      · rw [iR (by rw [lW d1 hx]; first|decide|exact d1)]; try rfl
      · rw [lW d1 hx]
     have d6: ¬(plc S.l (afP t (nth S.l k) i)=S.l.length∧plc S.l (afP t (nth S.l k) i)=128):=fun z=>c15 (by omega)
     refine aH (W_r (aA t8 (aK t15 h15 rfl rfl (aA rfl (aGW (B':=(bz 1 gI 2 (jK (S.l++[(afP t (nth S.l k) i)])))) (@rfl V (V.mm 39 1)) (@rfl V (V.agg [(iV (((afP t (((nth (S.l) (k)))) i)).1)),(V.bool (nth (((afP t (((nth (S.l) (k)))) i)).2) 0)),(V.bool (nth (((afP t (((nth (S.l) (k)))) i)).2) 1)),(V.bool (nth (((afP t (((nth (S.l) (k)))) i)).2) 2)),(V.bool (nth (((afP t (((nth (S.l) (k)))) i)).2) 3))])) (@rfl V (iV ((S.l.length:Nat):Int))) h39 (aSg (c:=(afP t (nth S.l k) i)) p4.1 p4.2 d7) (R_e (W_t ?_)))))))
     refine aA t9 (aK t15 h15 rfl rfl (eF rfl rfl (fL (l:=S.l) (f:=cC4) (x:=(((afP t (((nth (S.l) (k)))) i)))) (@rfl V (V.ms 43 w0 0 (S.l.length))) h43 (by first|rfl|simp|omega) (@rfl V (V.sl [[(iV (((afP t (((nth (S.l) (k)))) i)).1)),(V.bool (nth (((afP t (((nth (S.l) (k)))) i)).2) 0)),(V.bool (nth (((afP t (((nth (S.l) (k)))) i)).2) 1)),(V.bool (nth (((afP t (((nth (S.l) (k)))) i)).2) 2)),(V.bool (nth (((afP t (((nth (S.l) (k)))) i)).2) 3))]])) rfl rfl (by omega) (by omega) (aA rfl (R_e ?_)))))
     refine n13 _ _ ⟨(w0+1),t1,t2,t5,t6,t8,t10,t11,t12,t13,t18,t56,t57,(Eq.trans (@rfl V (iV ((S.l.length:Nat):Int))) (by first|rfl|(rw [e18]; done)|(rw [e19]; done)|(rw [d7]; done)|(rw [e7,List.length_append]; rfl)|(rw [e7]; done)|simp)),(Eq.trans (@rfl V (V.ms 43 (w0+1) 0 (S.l.length+1))) (by first|rfl|(rw [e18]; done)|(rw [e19]; done)|(rw [d7]; done)|(rw [e7,List.length_append]; rfl)|(rw [e7]; done)|simp)),h1,h2,h7,h10,h15,(Eq.trans (@rfl Blk (bz 1 gI 2 (jK (S.l++[(afP t (nth S.l k) i)])))) (by first|rfl|(rw [eK ht]; done)|(rw [eK ht]; rfl)|(rw [e7,List.map_append]; rfl)|(rw [e7]; done)|(rw [e7]; rfl)|simp)),(Eq.trans (@rfl Blk (bk (w0+1) 127 5 (List.map cC4 (S.l++[((afP t (((nth (S.l) (k)))) i))])))) (by first|rfl|(rw [eK ht]; done)|(rw [eK ht]; rfl)|(rw [e7,List.map_append]; rfl)|(rw [e7]; done)|(rw [e7]; rfl)|simp)),h53,h55,h812,h813,?_,trivial⟩
     · exact d6
    have d7: ¬plc S.l (afP t (nth S.l k) i)=S.l.length:=fun z=>c14 (fun q=>q z)
    have e7:cQ S.l (afP t (nth S.l k) i)=S.l:=if_neg d7
    have d6: ¬(plc S.l (afP t (nth S.l k) i)=S.l.length∧plc S.l (afP t (nth S.l k) i)=128):=fun z=>d7 z.1
    have e19:(if plc S.l (afP t (nth S.l k) i)=S.l.length then 0 else ((plc S.l (afP t (nth S.l k) i):Nat):Int))=((plc S.l (afP t (nth S.l k) i):Nat):Int):=if_neg d7
    refine cX ?_
    refine n13 _ _ ⟨w0,t1,t2,t5,t6,t8,t10,t11,t12,t13,t18,t56,t57,(Eq.trans (@rfl V (iV ((if plc S.l (afP t (nth S.l k) i)=S.l.length then 0 else ((plc S.l (afP t (nth S.l k) i):Nat):Int))))) (by first|rfl|(rw [e18]; done)|(rw [e19]; done)|(rw [d7]; done)|(rw [e7,List.length_append]; rfl)|(rw [e7]; done)|simp)),(Eq.trans t9 (by first|rfl|(rw [e18]; done)|(rw [e19]; done)|(rw [d7]; done)|(rw [e7,List.length_append]; rfl)|(rw [e7]; done)|simp)),h1,h2,h7,h10,h15,(Eq.trans h39 (by first|rfl|(rw [eK ht]; done)|(rw [eK ht]; rfl)|(rw [e7,List.map_append]; rfl)|(rw [e7]; done)|(rw [e7]; rfl)|simp)),(Eq.trans h43 (by first|rfl|(rw [eK ht]; done)|(rw [eK ht]; rfl)|(rw [e7,List.map_append]; rfl)|(rw [e7]; done)|(rw [e7]; rfl)|simp)),h53,h55,h812,h813,?_,trivial⟩
    · exact d6
   intro T H ⟨w4,t1,t2,t5,t6,t8,t10,t11,t12,t13,t18,t56,t57,t19,t9,h1,h2,h7,h10,h15,h39,h43,h53,h55,h812,h813,d6,_⟩
   refine W_t (aA t12 (aA t19 (eF rfl rfl (fL (l:=S.a) (f:=cI) (x:=(((plc S.l (afP t (nth S.l k) i):Nat):Int))) (@rfl V (V.ms 53 w1 0 (S.a.length))) h53 (by first|rfl|simp|omega) (@rfl V (V.sl [[(iV ((plc S.l (afP t (nth S.l k) i):Nat):Int))]])) rfl rfl (by omega) (by omega) (aA t13 (aA t18 (eF rfl rfl ?_)))))))
   refine fL (l:=S.b) (f:=cI) (x:=((unP t (nth S.l k) i))) (@rfl V (V.ms 55 w2 0 (S.b.length))) h55 (by first|rfl|simp|omega) (@rfl V (V.sl [[(iV (unP t (nth S.l k) i))]])) rfl rfl (by omega) (by omega) (aA rfl (aA rfl (R_e (n9 _ _ (dE (R:=fun T H=>T 1=(V.mp 1 1 0 0)∧T 2=(V.mp 2 1 0 0)∧T 5=(iV ((t.i)+(t.tm)))∧T 6=(iV ((1:Int)+((t.tm)*(1001:Int))))∧T 8=(V.mm 39 1)∧T 9=(V.ms 43 w4 0 ((cQ S.l (afP t (nth S.l k) i)).length))∧T 10=(V.mp 10 1 0 0)∧T 11=(iV ((k:Nat):Int))∧T 12=(V.ms 53 (w1+1) 0 (S.a.length+1))∧T 13=(V.ms 55 (w2+1) 0 (S.b.length+1))∧T 56=(iV ((t.i)+(t.tm)))∧T 57=(iV ((i:Nat):Int))∧H 1=(bk 1 29 6 [[(iV (t.i)),(iV (t.tm)),(iV (t.s)),(aB t.nx),(aB t.ot),(V.sl (List.map cSr (t.st)))]])∧H 2=(bk 1 24 4 [[(iV (0:Int)),(iV (0:Int)),V.nilsl,V.nilsl]])∧H 7=(bk 1 127 5 [[(iV (t.s)),(V.bool false),(V.bool false),(V.bool false),(V.bool false)]])∧H 10=(bk 1 24 4 [[(iV (t.i+t.tm)),(iV (0:Int)),(V.ms 812 v1 0 (U.nx.length)),(V.ms 813 v2 0 (U.ot.length))]])∧H 15=(bk (v15+1) 127 5 [[(iV (((afP t (((nth (S.l) (k)))) i)).1)),(V.bool (nth (((afP t (((nth (S.l) (k)))) i)).2) 0)),(V.bool (nth (((afP t (((nth (S.l) (k)))) i)).2) 1)),(V.bool (nth (((afP t (((nth (S.l) (k)))) i)).2) 2)),(V.bool (nth (((afP t (((nth (S.l) (k)))) i)).2) 3))]])∧H 39=(bz 1 gI 2 (jK (cQ S.l (afP t (nth S.l k) i))))∧H 43=(bk w4 127 5 (List.map cC4 (cQ S.l (afP t (nth S.l k) i))))∧H 53=(bk (w1+1) 3 1 (List.map cI (S.a++[((plc S.l (afP t (nth S.l k) i):Nat):Int)])))∧H 55=(bk (w2+1) 3 1 (List.map cI (S.b++[(unP t (nth S.l k) i)])))∧H 812=(bz v1 38 1 (List.map cL (U.nx)))∧H 813=(bz v2 38 1 (List.map cL (U.ot)))∧True) ⟨t1,t2,t5,t6,t8,t9,t10,t11,(@rfl V (V.ms 53 (w1+1) 0 (S.a.length+1))),(@rfl V (V.ms 55 (w2+1) 0 (S.b.length+1))),t56,t57,h1,h2,h7,h10,h15,h39,h43,rfl,rfl,h812,h813,trivial⟩ ?_)))))
   intro T H ⟨t1,t2,t5,t6,t8,t9,t10,t11,t12,t13,t56,t57,h1,h2,h7,h10,h15,h39,h43,h53,h55,h812,h813,_⟩
   refine .freeze 15 (.done ?_)
   refine dE (R:=fun T H=>T 1=(V.mp 1 1 0 0)∧T 2=(V.mp 2 1 0 0)∧T 5=(iV ((t.i)+(t.tm)))∧T 6=(iV ((1:Int)+((t.tm)*(1001:Int))))∧T 8=(V.mm 39 1)∧T 9=(V.ms 43 w4 0 ((cQ S.l (afP t (nth S.l k) i)).length))∧T 10=(V.mp 10 1 0 0)∧T 11=(iV ((k:Nat):Int))∧T 12=(V.ms 53 (w1+1) 0 (S.a.length+1))∧T 13=(V.ms 55 (w2+1) 0 (S.b.length+1))∧T 56=(iV ((t.i)+(t.tm)))∧T 57=(iV ((i:Nat):Int))∧H 1=(bk 1 29 6 [[(iV (t.i)),(iV (t.tm)),(iV (t.s)),(aB t.nx),(aB t.ot),(V.sl (List.map cSr (t.st)))]])∧H 2=(bk 1 24 4 [[(iV (0:Int)),(iV (0:Int)),V.nilsl,V.nilsl]])∧H 7=(bk 1 127 5 [[(iV (t.s)),(V.bool false),(V.bool false),(V.bool false),(V.bool false)]])∧H 10=(bk 1 24 4 [[(iV (t.i+t.tm)),(iV (0:Int)),(V.ms 812 v1 0 (U.nx.length)),(V.ms 813 v2 0 (U.ot.length))]])∧((H 15).ver=v15+1∧(H 15).live=false)∧H 39=(bz 1 gI 2 (jK (cQ S.l (afP t (nth S.l k) i))))∧H 43=(bk w4 127 5 (List.map cC4 (cQ S.l (afP t (nth S.l k) i))))∧H 53=(bk (w1+1) 3 1 (List.map cI (S.a++[((plc S.l (afP t (nth S.l k) i):Nat):Int)])))∧H 55=(bk (w2+1) 3 1 (List.map cI (S.b++[(unP t (nth S.l k) i)])))∧H 812=(bz v1 38 1 (List.map cL (U.nx)))∧H 813=(bz v2 38 1 (List.map cL (U.ot)))∧True) ⟨(aT t1 rfl),(aT t2 rfl),(aT t5 rfl),(aT t6 rfl),(aT t8 rfl),(aT t9 (dD (by decide))),(aT t10 rfl),(aT t11 rfl),(aT t12 (dD (by decide))),(aT t13 (dD (by decide))),(aT t56 rfl),(aT t57 rfl),(aR h1 (by decide)),(aR h2 (by decide)),(aR h7 (by decide)),(aR h10 (by decide)),(dM (congrArg Blk.ver h15)),(aR h39 (by decide)),(aR h43 (by decide)),(aR h53 (by decide)),(aR h55 (by decide)),(aR h812 (by decide)),(aR h813 (by decide)),trivial⟩ ?_
   intro T H ⟨t1,t2,t5,t6,t8,t9,t10,t11,t12,t13,t56,t57,h1,h2,h7,h10,h15,h39,h43,h53,h55,h812,h813,_⟩
   refine W_t (bV t57 (@rfl V (iV ((1:Nat):Int))) (by omega) (aA rfl (R_e ?_)))
   refine p17 _ _ _ ?_ ⟨(i+1),⟨cQ S.l (afP t (nth S.l k) i),S.a++[((plc S.l (afP t (nth S.l k) i):Nat):Int)],S.b++[unP t (nth S.l k) i]⟩,w4,(w1+1),(w2+1),(v15+1),rfl,t1,t2,t5,t6,t8,(Eq.trans t9 (by first|rfl|(rw [e18]; done)|(rw [e19]; done)|(rw [d7]; done)|(rw [e7,List.length_append]; rfl)|(rw [e7]; done)|simp)),t10,t11,(Eq.trans t12 (by first|rfl|(rw [e18]; done)|(rw [e19]; done)|(rw [d7]; done)|(rw [e7,List.length_append]; rfl)|(rw [e7]; done)|simp)),(Eq.trans t13 (by first|rfl|(rw [e18]; done)|(rw [e19]; done)|(rw [d7]; done)|(rw [e7,List.length_append]; rfl)|(rw [e7]; done)|simp)),t56,(Eq.trans (@rfl V (iV ((i+1:Nat):Int))) (by first|rfl|(rw [e18]; done)|(rw [e19]; done)|(rw [d7]; done)|(rw [e7,List.length_append]; rfl)|(rw [e7]; done)|simp)),h1,h2,h7,h10,h15,(Eq.trans h39 (by first|rfl|(rw [eK ht]; done)|(rw [eK ht]; rfl)|(rw [e7,List.map_append]; rfl)|(rw [e7]; done)|(rw [e7]; rfl)|simp)),(Eq.trans h43 (by first|rfl|(rw [eK ht]; done)|(rw [eK ht]; rfl)|(rw [e7,List.map_append]; rfl)|(rw [e7]; done)|(rw [e7]; rfl)|simp)),(Eq.trans h53 (by first|rfl|(rw [eK ht]; done)|(rw [eK ht]; rfl)|(rw [e7,List.map_append]; rfl)|(rw [e7]; done)|(rw [e7]; rfl)|simp)),(Eq.trans h55 (by first|rfl|(rw [eK ht]; done)|(rw [eK ht]; rfl)|(rw [e7,List.map_append]; rfl)|(rw [e7]; done)|(rw [e7]; rfl)|simp)),h812,h813,?_,?_,?_,?_,?_,?_⟩
   · omega
   · omega
   · exact hs.add aok d6
   · exact aMG hsn
   · exact ⟨(yT (by omega)).1.trans hsl.1,Nat.le_trans hsl.2 (yT (k:=k) (by omega)).2⟩
   · simp only [List.length_append,List.length_singleton]; omega
   · exact hr.trans (aEO (by omega) d5 (by omega) hsn d6)
  have hrow:=hr.trans (aFp (by omega))
  refine bA (p37 _ _ _ (x6 _ _ (dE (R:=fun T H=>T 1=(V.mp 1 1 0 0)∧T 2=(V.mp 2 1 0 0)∧T 5=(iV ((t.i)+(t.tm)))∧T 6=(iV ((1:Int)+((t.tm)*(1001:Int))))∧T 8=(V.mm 39 1)∧T 9=(V.ms 43 w0 0 (S.l.length))∧T 10=(V.mp 10 1 0 0)∧T 11=(iV ((k:Nat):Int))∧T 12=(V.ms 53 w1 0 (S.a.length))∧T 13=(V.ms 55 w2 0 (S.b.length))∧T 56=(iV ((t.i)+(t.tm)))∧T 57=(iV ((i:Nat):Int))∧T 58=(V.bool (decide (((i:Nat):Int) < ((t.i)+(t.tm)))))∧H 1=(bk 1 29 6 [[(iV (t.i)),(iV (t.tm)),(iV (t.s)),(aB t.nx),(aB t.ot),(V.sl (List.map cSr (t.st)))]])∧H 2=(bk 1 24 4 [[(iV (0:Int)),(iV (0:Int)),V.nilsl,V.nilsl]])∧H 7=(bk 1 127 5 [[(iV (t.s)),(V.bool false),(V.bool false),(V.bool false),(V.bool false)]])∧H 10=(bk 1 24 4 [[(iV (t.i+t.tm)),(iV (0:Int)),(V.ms 812 v1 0 (U.nx.length)),(V.ms 813 v2 0 (U.ot.length))]])∧((H 15).ver=v15∧(H 15).live=false)∧H 39=(bz 1 gI 2 (jK S.l))∧H 43=(bk w0 127 5 (List.map cC4 (S.l)))∧H 53=(bk w1 3 1 (List.map cI (S.a)))∧H 55=(bk w2 3 1 (List.map cI (S.b)))∧H 812=(bz v1 38 1 (List.map cL (U.nx)))∧H 813=(bz v2 38 1 (List.map cL (U.ot)))∧True) ⟨t1,t2,t5,t6,t8,t9,t10,t11,t12,t13,t56,t57,(@rfl V (V.bool (decide (((i:Nat):Int) < ((t.i)+(t.tm)))))),h1,h2,h7,h10,h15,h39,h43,h53,h55,h812,h813,trivial⟩ ?_)))
  intro T H ⟨t1,t2,t5,t6,t8,t9,t10,t11,t12,t13,t56,t57,t58,h1,h2,h7,h10,h15,h39,h43,h53,h55,h812,h813,_⟩
  refine .freeze 53 (dE (R:=fun T H=>T 1=(V.mp 1 1 0 0)∧T 2=(V.mp 2 1 0 0)∧T 5=(iV ((t.i)+(t.tm)))∧T 6=(iV ((1:Int)+((t.tm)*(1001:Int))))∧T 8=(V.mm 39 1)∧T 9=(V.ms 43 w0 0 (S.l.length))∧T 10=(V.mp 10 1 0 0)∧T 11=(iV ((k:Nat):Int))∧T 12=(aS S.a)∧T 13=(V.ms 55 w2 0 (S.b.length))∧T 56=(iV ((t.i)+(t.tm)))∧T 57=(iV ((i:Nat):Int))∧T 58=(V.bool (decide (((i:Nat):Int) < ((t.i)+(t.tm)))))∧H 1=(bk 1 29 6 [[(iV (t.i)),(iV (t.tm)),(iV (t.s)),(aB t.nx),(aB t.ot),(V.sl (List.map cSr (t.st)))]])∧H 2=(bk 1 24 4 [[(iV (0:Int)),(iV (0:Int)),V.nilsl,V.nilsl]])∧H 7=(bk 1 127 5 [[(iV (t.s)),(V.bool false),(V.bool false),(V.bool false),(V.bool false)]])∧H 10=(bk 1 24 4 [[(iV (t.i+t.tm)),(iV (0:Int)),(V.ms 812 v1 0 (U.nx.length)),(V.ms 813 v2 0 (U.ot.length))]])∧((H 15).ver=v15∧(H 15).live=false)∧H 39=(bz 1 gI 2 (jK S.l))∧H 43=(bk w0 127 5 (List.map cC4 (S.l)))∧((H 53).ver=w1∧(H 53).live=false)∧H 55=(bk w2 3 1 (List.map cI (S.b)))∧H 812=(bz v1 38 1 (List.map cL (U.nx)))∧H 813=(bz v2 38 1 (List.map cL (U.ot)))∧True) ⟨(aT t1 rfl),(aT t2 rfl),(aT t5 rfl),(aT t6 rfl),(aT t8 rfl),(aT t9 (dD (by decide))),(aT t10 rfl),(aT t11 rfl),(aT t12 (zR h53 (by first|rfl|simp) (l:=S.a) rfl (by first|rfl|simp|omega))),(aT t13 (dD (by decide))),(aT t56 rfl),(aT t57 rfl),(aT t58 rfl),(aR h1 (by decide)),(aR h2 (by decide)),(aR h7 (by decide)),(aR h10 (by decide)),(cA h15),(aR h39 (by decide)),(aR h43 (by decide)),(dM (congrArg Blk.ver h53)),(aR h55 (by decide)),(aR h812 (by decide)),(aR h813 (by decide)),trivial⟩ ?_)
  intro T H ⟨t1,t2,t5,t6,t8,t9,t10,t11,t12,t13,t56,t57,t58,h1,h2,h7,h10,h15,h39,h43,h53,h55,h812,h813,_⟩
  refine .freeze 55 (.done ?_)
  refine dE (R:=fun T H=>T 1=(V.mp 1 1 0 0)∧T 2=(V.mp 2 1 0 0)∧T 5=(iV ((t.i)+(t.tm)))∧T 6=(iV ((1:Int)+((t.tm)*(1001:Int))))∧T 8=(V.mm 39 1)∧T 9=(V.ms 43 w0 0 (S.l.length))∧T 10=(V.mp 10 1 0 0)∧T 11=(iV ((k:Nat):Int))∧T 12=(aS S.a)∧T 13=(aS S.b)∧T 56=(iV ((t.i)+(t.tm)))∧T 57=(iV ((i:Nat):Int))∧T 58=(V.bool (decide (((i:Nat):Int) < ((t.i)+(t.tm)))))∧H 1=(bk 1 29 6 [[(iV (t.i)),(iV (t.tm)),(iV (t.s)),(aB t.nx),(aB t.ot),(V.sl (List.map cSr (t.st)))]])∧H 2=(bk 1 24 4 [[(iV (0:Int)),(iV (0:Int)),V.nilsl,V.nilsl]])∧H 7=(bk 1 127 5 [[(iV (t.s)),(V.bool false),(V.bool false),(V.bool false),(V.bool false)]])∧H 10=(bk 1 24 4 [[(iV (t.i+t.tm)),(iV (0:Int)),(V.ms 812 v1 0 (U.nx.length)),(V.ms 813 v2 0 (U.ot.length))]])∧((H 15).ver=v15∧(H 15).live=false)∧H 39=(bz 1 gI 2 (jK S.l))∧H 43=(bk w0 127 5 (List.map cC4 (S.l)))∧((H 53).ver=w1∧(H 53).live=false)∧((H 55).ver=w2∧(H 55).live=false)∧H 812=(bz v1 38 1 (List.map cL (U.nx)))∧H 813=(bz v2 38 1 (List.map cL (U.ot)))∧True) ⟨(aT t1 rfl),(aT t2 rfl),(aT t5 rfl),(aT t6 rfl),(aT t8 rfl),(aT t9 (dD (by decide))),(aT t10 rfl),(aT t11 rfl),(aT t12 rfl),(aT t13 (zR h55 (by first|rfl|simp) (l:=S.b) rfl (by first|rfl|simp|omega))),(aT t56 rfl),(aT t57 rfl),(aT t58 rfl),(aR h1 (by decide)),(aR h2 (by decide)),(aR h7 (by decide)),(aR h10 (by decide)),(cA h15),(aR h39 (by decide)),(aR h43 (by decide)),(cA h53),(dM (congrArg Blk.ver h55)),(aR h812 (by decide)),(aR h813 (by decide)),trivial⟩ ?_
  intro T H ⟨t1,t2,t5,t6,t8,t9,t10,t11,t12,t13,t56,t57,t58,h1,h2,h7,h10,h15,h39,h43,h53,h55,h812,h813,_⟩
  refine aT2 (aP t10 h10 (aK rfl h10 rfl rfl (aA t12 (eF rfl rfl (fL (l:=U.nx) (f:=cL) (x:=S.a) (@rfl V (V.ms 812 v1 0 (U.nx.length))) h812 (by first|rfl|simp|omega) (@rfl V (V.sl [[(aS S.a)]])) rfl rfl (by omega) (by omega) (aP t10 h10 (aK rfl h10 rfl rfl ?_)))))))
  refine aA t13 (eF rfl rfl (fL (l:=U.ot) (f:=cL) (x:=S.b) (@rfl V (V.ms 813 v2 0 (U.ot.length))) h813 (by first|rfl|simp|omega) (@rfl V (V.sl [[(aS S.b)]])) rfl rfl (by omega) (by omega) (aP t10 h10 (bQ (vs:=[(V.ms 812 (v1+1) 0 (U.nx.length+1))]) (B':=(bk 1 24 4 [[(iV (t.i+t.tm)),(iV (0:Int)),(V.ms 812 (v1+1) 0 (U.nx.length+1)),(V.ms 813 v2 0 (U.ot.length))]])) rfl rfl rfl h10 (sB oB rfl rfl rfl rfl rfl) (aP t10 rfl (bQ (vs:=[(V.ms 813 (v2+1) 0 (U.ot.length+1))]) (B':=(bk 1 24 4 [[(iV (t.i+t.tm)),(iV (0:Int)),(V.ms 812 (v1+1) 0 (U.nx.length+1)),(V.ms 813 (v2+1) 0 (U.ot.length+1))]])) rfl rfl rfl rfl (sB oB rfl rfl rfl rfl rfl) (R_e ?_)))))))
  refine ⟨by simp [ddB,apV,mI,aGe,t1,t10,t11,t12,t13,t2,t5,t56,t57,t58,t6,t8,t9],?_⟩
  refine n5 _ _ (.done (W_t (aA t11 (bV rfl (@rfl V (iV ((1:Nat):Int))) (by omega) (aA rfl (R_e ?_))))))
  refine p13 _ _ _ ?_ ⟨(k+1),⟨S.l,U.nx++[S.a],U.ot++[S.b]⟩,w0,(v1+1),(v2+1),v15,w1,w2,rfl,t1,t2,t5,t6,t8,(Eq.trans t9 (by first|rfl|(rw [e18]; done)|(rw [e19]; done)|(rw [d7]; done)|(rw [e7,List.length_append]; rfl)|(rw [e7]; done)|simp)),t10,(Eq.trans (@rfl V (iV ((k+1:Nat):Int))) (by first|rfl|(rw [e18]; done)|(rw [e19]; done)|(rw [d7]; done)|(rw [e7,List.length_append]; rfl)|(rw [e7]; done)|simp)),h1,h2,h7,(Eq.trans (@rfl Blk (bk 1 24 4 [[(iV (t.i+t.tm)),(iV (0:Int)),(V.ms 812 (v1+1) 0 (U.nx.length+1)),(V.ms 813 (v2+1) 0 (U.ot.length+1))]])) (by first|rfl|(rw [eK ht]; done)|(rw [eK ht]; rfl)|(rw [e7,List.map_append]; rfl)|(rw [e7]; done)|(rw [e7]; rfl)|simp)),h15,(Eq.trans h39 (by first|rfl|(rw [eK ht]; done)|(rw [eK ht]; rfl)|(rw [e7,List.map_append]; rfl)|(rw [e7]; done)|(rw [e7]; rfl)|simp)),(Eq.trans h43 (by first|rfl|(rw [eK ht]; done)|(rw [eK ht]; rfl)|(rw [e7,List.map_append]; rfl)|(rw [e7]; done)|(rw [e7]; rfl)|simp)),h53,h55,(Eq.trans (@rfl Blk (bz (v1+1) 38 1 (List.map cL (U.nx++[S.a])))) (by first|rfl|(rw [eK ht]; done)|(rw [eK ht]; rfl)|(rw [e7,List.map_append]; rfl)|(rw [e7]; done)|(rw [e7]; rfl)|simp)),(Eq.trans (@rfl Blk (bz (v2+1) 38 1 (List.map cL (U.ot++[S.b])))) (by first|rfl|(rw [eK ht]; done)|(rw [eK ht]; rfl)|(rw [e7,List.map_append]; rfl)|(rw [e7]; done)|(rw [e7]; rfl)|simp)),?_,?_,?_,?_,?_⟩
  · have:=hu.len; omega
  · show k+1≤S.l.length; have:=hsl.2; omega
  · exact hs
  · exact hsn
  · simp only [List.length_append,List.length_singleton]; omega
  · exact hc.trans (aFS (by omega) (by omega) hrow)
 have hx:=hc.trans (aFJ (by omega))
 have hv:=aHS ht hx
 refine bA (p33 _ _ _ (x2 _ _ (.done (W_r (aK t10 h10 rfl rfl (aK t10 h10 rfl rfl (aHK (dH (@rfl V (V.agg [(iV (t.i+t.tm)),(iV (0:Int)),(V.ms 812 v1 0 (U.nx.length)),(V.ms 813 v2 0 (U.ot.length))])) iH) (tA (⟨((t.i+t.tm)),((0:Int)),U.nx,U.ot⟩:M)) (dS (qD (dS (dC 5 _ (by simp [-List.map_take,-List.map_drop,-List.map_append,-List.map_reverse])) (dS (dC 5 _ (by simp [-List.map_take,-List.map_drop,-List.map_append,-List.map_reverse])) (dS (aDc h812 (by first|rfl|simp) (aA3 (l:=U.nx) (by first|rfl|simp|omega)) (fun _=>by simp)) (dS (aDc h813 (by first|rfl|simp) (aA3 (l:=U.ot) (by first|rfl|simp|omega)) (fun _=>by simp)) rfl))))) rfl) (by simp [-List.map_take,-List.map_drop,-List.map_append,-List.map_reverse]) (Or.inr rfl) ?_)))))))
 refine bQ (vs:=[(iV (t.i+t.tm)),(iV (0:Int)),(V.ms 812 v1 0 (U.nx.length)),(V.ms 813 v2 0 (U.ot.length))]) (B':=(bk 1 24 4 [[(iV (t.i+t.tm)),(iV (0:Int)),(V.ms 812 v1 0 (U.nx.length)),(V.ms 813 v2 0 (U.ot.length))]])) t2 rfl rfl h2 (sB oB rfl rfl rfl rfl rfl) (aA rfl (R_e (bK ?_)))
 refine oJ (jO (u:=(V.agg [(iV (t.i+t.tm)),(iV (0:Int)),(V.ms 812 v1 0 (U.nx.length)),(V.ms 813 v2 0 (U.ot.length))])) t2 (@rfl Blk (bk 1 24 4 [[(iV (t.i+t.tm)),(iV (0:Int)),(V.ms 812 v1 0 (U.nx.length)),(V.ms 813 v2 0 (U.ot.length))]])) (lB oB rfl rfl)) (iQ (@rfl V (iV (dU (⟨((t.i+t.tm)),((0:Int)),U.nx,U.ot⟩:M))))) (qD (dS (aQ ?_) (dS (aQ ?_) (dS (nS h812 (by first|rfl|simp) (l:=U.nx) rfl (by first|rfl|simp|omega) (fun _=>by simp) ?_) (dS (nS h813 (by first|rfl|simp) (l:=U.ot) rfl (by first|rfl|simp|omega) (fun _=>by simp) ?_) rfl))))) (aQ ?_)
 · rw [rA d1 hx]
 · rw [rA d1 hx]
 · rw [rA d1 hx]
 · rw [rA d1 hx]
 · rw [hv]; exact (lW d1 hx).symm
end Go.Proofs.YtilfohjlglefjaaGreat
namespace Go.Proofs.YtilfohjlglefjaaGreat
open Go Go.Proofs
theorem aCn (a b:M):bB Tryz.prog 65 [(V.agg [(iV (a.i)),(iV (a.s)),(aB a.nx),(aB a.ot)]),(V.agg [(iV (b.i)),(iV (b.s)),(aB b.nx),(aB b.ot)])] (iV (lK a b)):=by
 refine pW Tryz.func65 aFZ fun hB=>?_
 unfold s65
 dsimp only
 refine W_r (eT (i:=2) (n:=0) (m:=4) (cs:=[(iV (a.i)),(iV (a.s)),(aB a.nx),(aB a.ot)]) rfl (congrArg Blk.ver rfl) rfl rfl rfl (eT (i:=3) (n:=0) (m:=4) (cs:=[(iV (b.i)),(iV (b.s)),(aB b.nx),(aB b.ot)]) rfl (congrArg Blk.ver rfl) rfl rfl rfl (aA rfl (R_e (aC (W_r (aK rfl rfl rfl rfl ?_)))))))
 refine aK rfl rfl rfl rfl (eM rfl rfl (aA rfl (R_e (aI fun Q1 n1 x1 y1 z1=>?_))))
 refine cW (fun mm T H=> ∃ (k:Nat) (v6:Nat),mm=2 - k∧T 2=(V.mp 2 1 0 0)∧T 3=(V.mp 3 1 0 0)∧T 10=(V.agg [(iV (a.i)),(iV (a.s)),(aB a.nx),(aB a.ot),(iV (b.i)),(iV (b.s)),(aB b.nx),(aB b.ot)])∧T 11=(iV ((k:Nat):Int))∧H 2=(bk 1 24 4 [[(iV (a.i)),(iV (a.s)),(aB a.nx),(aB a.ot)]])∧H 3=(bk 1 24 4 [[(iV (b.i)),(iV (b.s)),(aB b.nx),(aB b.ot)]])∧(H 6).ver=v6∧(k≤2)∧(1≤k→dU a=0)∧(2≤k→dU b=0)) ?_ ?_
 ·
  refine ⟨_,0,0,rfl,rfl,rfl,rfl,(Eq.trans (@rfl V (iV (0:Int))) rfl),rfl,rfl,(congrArg Blk.ver rfl),?_,?_,?_⟩
  · omega
  · intro; omega
  · intro; omega
 intro mm T H ⟨k,v6,hmm,t2,t3,t10,t11,h2,h3,h6,hk,ha,hb⟩ Q2 p12 p22 p32
 unfold aLq
 refine W_r (bR t11 rfl (R_e ?_))
 refine aO rfl (fun c3=>?_) fun c3=>?_
 ·
  refine aH (aI fun Q4 n4 x4 y4 z4=>(W_r (aDh (v:=(V.agg [(iV ((nth [a,b] k).i)),(iV ((nth [a,b] k).s)),(aB ((nth [a,b] k).nx)),(aB ((nth [a,b] k).ot))])) t10 t11 (by rcases (show k=0∨k=1 by omega) with e|e <;> subst e <;> rfl) (cK (i:=6) (n:=v6) (m:=4) rfl h6 rfl (mM rfl rfl rfl rfl rfl rfl rfl rfl rfl (R_e (W_r ?_)))))))
  refine aK rfl rfl rfl rfl (bG (tA ((nth [a,b] k))) rfl (aA rfl (R_e (W_r (aA rfl (dQ rfl rfl (R_e ?_)))))))
  refine fR rfl (fun c5=>?_) fun c5=>?_
  ·
   have d0:=c5
   refine W_r (aA rfl (aA rfl (R_e (bK (y4 _ _ (p22 _ _ (y1 _ _ ?_)))))))
   refine bH (@rfl V (iV (dU ((nth [a,b] k))))) (aQ ?_)
   · rcases (show k=0∨k=1 by omega) with e|e
     · subst e; rw [eA]; exact (aMA d0).symm
     · subst e; exact (aO2 (ha (by omega)) d0).symm
  have d0:dU (nth [a,b] k)=0:=by omega
  refine cX (n4 _ _ (.done (W_t (bV t11 (@rfl V (iV ((1:Nat):Int))) (by omega) (aA rfl (R_e ?_))))))
  refine p12 _ _ _ ?_ ⟨(k+1),(v6+1),rfl,t2,t3,t10,(Eq.trans (@rfl V (iV ((k+1:Nat):Int))) (by first|rfl|simp)),h2,h3,(congrArg Blk.ver rfl),?_,?_,?_⟩
  · omega
  · omega
  · intro _; rcases (show k=0∨k=1 by omega) with e|e
    · subst e; have d1:=d0; rw [eA] at d1; exact d1
    · exact ha (by omega)
  · intro _; have e:k=1:=by omega
    subst e; exact d0
 refine bA (p32 _ _ _ (x1 _ _ (.done (aC (W_r (aP t2 h2 (aK rfl h2 rfl rfl ?_)))))))
 refine aP t3 h3 (aK rfl h3 rfl rfl (dQ rfl rfl (R_e ?_)))
 refine aO rfl (fun c6=>?_) fun c6=>?_
 ·
  refine aC (W_r (aA rfl (R_e (aU ?_))))
  refine bH (@rfl V (iV (15:Int))) (aQ ?_)
  · rw [aL5 (ha (by omega)) (hb (by omega)) (by omega)]
 refine aH (W_r (aA rfl (R_e (bK ?_))))
 refine bH (@rfl V (iV (0:Int))) (aQ ?_)
 · rw [aPA (ha (by omega)) (hb (by omega)) (by omega)]
theorem aCi (l:List (List Int)) (hs:(cat l).length≤4294967296):bB Tryz.prog 117 [(aB l)] (aS (cat l)):=by
 refine pW Tryz.func117 aEG fun hB=>?_
 unfold aIL
 dsimp only
 refine W_r (aA rfl (R_e (W_r (aA rfl (R_e (aC (W_r ?_)))))))
 refine aA rfl (bN rfl (aA rfl (R_e (iC fun Q1 n1 x1 y1 z1 w1=>?_))))
 refine zQ (fun mm T H=> ∃ (k:Nat) (v0:Nat),mm=l.length - k∧T 0=(aB l)∧T 3=(iV (((cat (l.take k)).length:Nat):Int))∧T 9=(aB l)∧T 10=(iV ((l.length:Nat):Int))∧T 11=(iV ((k:Nat):Int))∧(H 0).ver=v0∧H 900=(⟨0,false,false,0,0,[]⟩:Blk)∧(k≤l.length)) ?_ ?_
 ·
  refine ⟨_,0,0,rfl,rfl,(Eq.trans (@rfl V (iV (0:Int))) (by first|rfl|(rw [dR (by omega),List.length_append]; done)|(rw [dR (by omega),List.length_append]; rfl)|simp)),rfl,rfl,(Eq.trans (@rfl V (iV (0:Int))) rfl),(congrArg Blk.ver rfl),rfl,?_⟩
  · omega
 intro mm T H ⟨k,v0,hmm,t0,t3,t9,t10,t11,h0,h900,hk⟩ Q2 p12 p22 p32 p42
 unfold aGT
 refine W_r (bR t11 t10 (R_e ?_))
 refine aO rfl (fun c3=>?_) fun c3=>?_
 ·
  have hq:=sK (l:=l) (k:=k) (by omega)
  refine aH (iC fun Q4 n4 x4 y4 z4 w4=>(W_r (bL (i:=k) t9 t11 (by omega) rfl (aJ rfl rfl (aA rfl (R_e (W_r ?_)))))))
  refine aA t3 (aA rfl (bN rfl (bV rfl rfl (by omega) (aA rfl (R_e (W_r (aA rfl ?_)))))))
  refine bR rfl rfl (R_e ?_)
  refine fR rfl (fun c5=>?_) fun c5=>?_
  · exfalso; omega
  refine cX (n4 _ _ (.done (W_t (bV t11 (@rfl V (iV ((1:Nat):Int))) (by omega) (aA rfl (R_e ?_))))))
  refine p12 _ _ _ ?_ ⟨(k+1),v0,rfl,t0,(Eq.trans (@rfl V (iV ((((cat (l.take k)).length)+((nth (l) (k))).length:Nat):Int))) (by first|rfl|(rw [dR (by omega),List.length_append]; done)|(rw [dR (by omega),List.length_append]; rfl)|simp)),t9,t10,(Eq.trans (@rfl V (iV ((k+1:Nat):Int))) (by first|rfl|(rw [dR (by omega),List.length_append]; done)|(rw [dR (by omega),List.length_append]; rfl)|simp)),h0,h900,?_⟩
  · omega
  · omega
 have hk2:(cat (l.take k)).length=(cat l).length:=by rw [show k=l.length by omega,List.take_length]
 refine bA (p32 _ _ _ (x1 _ _ (.done (W_r (aA t3 (lL (dH rfl (dH rfl iH)) (aA1 uJ sS tB (by decide) rfl (n:=((cat (l.take k)).length)) (by omega) (by omega) 900 (congrArg Blk.ver h900)) (aA rfl ?_)))))))
 refine R_e (aC (W_r (aA t0 (bN rfl (aA rfl (R_e (iC fun Q6 n6 x6 y6 z6 w6=>?_)))))))
 refine zQ (fun mm T H=> ∃ (j:Nat) (w:Nat),mm=l.length - j∧T 6=(V.ms 900 w 0 ((cat (l.take j)).length))∧T 25=(aB l)∧T 26=(iV ((l.length:Nat):Int))∧T 27=(iV ((j:Nat):Int))∧(H 0).ver=v0∧H 900=(⟨w,true,decide ((cat (l.take k)).length=0),3,1,(List.map cI (cat (l.take j)))⟩:Blk)∧(j≤l.length)) ?_ ?_
 ·
  refine ⟨_,0,(0+1),rfl,(Eq.trans (@rfl V (V.ms 900 (0+1) 0 (0))) (by first|rfl|(rw [dR (by omega),List.length_append]; done)|(rw [dR (by omega),List.length_append]; rfl)|simp)),rfl,rfl,(Eq.trans (@rfl V (iV (0:Int))) rfl),h0,(Eq.trans (@rfl Blk (⟨0+1,true,decide ((cat (l.take k)).length=0),3,1,[]⟩:Blk)) (by first|rfl|(rw [dR (by omega)]; done)|(rw [dR (by omega)]; rfl))),?_⟩
  · omega
 intro mm T H ⟨j,w,hmm,t6,t25,t26,t27,h0,h900,hj⟩ Q7 p17 p27 p37 p47
 unfold aHo
 refine W_r (bR t27 t26 (R_e ?_))
 refine aO rfl (fun c8=>?_) fun c8=>?_
 ·
  have hq:=sK (l:=l) (k:=j) (by omega)
  refine aH (iC fun Q9 n9 x9 y9 z9 w9=>(W_r (bL (i:=j) t25 t27 (by omega) rfl (aJ rfl rfl (aA rfl (R_e (W_t ?_)))))))
  refine aA t6 (aA rfl (nG (l:=(cat (l.take j))) (m:=((nth (l) (j)))) (f:=cI) (@rfl V (V.ms 900 w 0 ((cat (l.take j)).length))) h900 (by first|rfl|simp|omega) (@rfl V (aS ((nth (l) (j))))) (fun _=>rfl) (fun _=>rfl) (by omega) (by omega) (aA rfl (R_e (n9 _ _ (.done (W_t ?_)))))))
  refine bV t27 (@rfl V (iV ((1:Nat):Int))) (by omega) (aA rfl (R_e ?_))
  refine p17 _ _ _ ?_ ⟨(j+1),(w+1),rfl,(Eq.trans (@rfl V (V.ms 900 (w+1) 0 (((cat (l.take j)).length)+((nth (l) (j))).length))) (by first|rfl|(rw [dR (by omega),List.length_append]; done)|(rw [dR (by omega),List.length_append]; rfl)|simp)),t25,t26,(Eq.trans (@rfl V (iV ((j+1:Nat):Int))) (by first|rfl|(rw [dR (by omega),List.length_append]; done)|(rw [dR (by omega),List.length_append]; rfl)|simp)),h0,(Eq.trans (@rfl Blk (⟨w+1,true,decide ((cat (l.take k)).length=0),3,1,(List.map cI (cat (l.take j)++((nth (l) (j)))))⟩:Blk)) (by first|rfl|(rw [dR (by omega)]; done)|(rw [dR (by omega)]; rfl))),?_⟩
  · omega
  · omega
 refine bA (p37 _ _ _ (x6 _ _ (.done (W_r (aA t6 (aA rfl (R_e ?_)))))))
 refine bK ?_
 refine bH (@rfl V (V.ms 900 w 0 ((cat (l.take j)).length))) (nS h900 (by first|rfl|simp) (l:=(cat (l.take j))) rfl (by first|rfl|simp|omega) (fun _=>by simp) ?_)
 · rw [show j=l.length by omega,List.take_length]
theorem vD (l:List (List Int)) (hs:(cat l).length≤4294967296):bB Tryz.prog 84 [(aB l)] (aS (cat l)):=by
 refine pW Tryz.func84 aHC fun hB=>?_
 unfold s84
 dsimp only
 refine W_r (aA rfl (R_e (W_r (aA rfl (bG (aCi l hs) rfl (aA rfl (R_e ?_)))))))
 refine bK ?_
 refine bH (@rfl V (aS (cat l))) (iO (by simp) rfl)
end Go.Proofs.YtilfohjlglefjaaGreat
