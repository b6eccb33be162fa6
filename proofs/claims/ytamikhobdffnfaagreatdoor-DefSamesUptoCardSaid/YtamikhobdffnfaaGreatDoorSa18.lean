/-
  Part of the proof of DefSames.
-/
import Derived.Test.YtamikhobdffnfaaGreatDoorSa10
import Derived.Test.YtamikhobdffnfaaGreatDoorSa11
set_option linter.all false
set_option maxRecDepth 1000000
set_option maxHeartbeats 40000000
section
namespace Go.AV
open Go Go.Proofs
def or5:Tr (OT × List (Nat × List Nat)):=(.nd (.nd .lf none (.nd .lf (some ((OT.l [0,1,2,3,4,5,6,7,8,9,11,10,12,13,14] .nil),[(10,[11])])) .lf)) none .lf)
def or6:Tr (OT × List (Nat × List Nat)):=(.nd (.nd (.nd .lf (some ((OT.l [0,1,3,4,2,5,6,7,8,9,11,12,10,13,14,15,16,17,18,19,20,21,22,23,24] .nil),[(2,[3,4,8,9,11,12,17,18]),(5,[8,9,11,12,17,18]),(10,[11,12,17,18]),(13,[17,18])])) .lf) none .lf) none .lf)
def or15:Tr (OT × List (Nat × List Nat)):=(.nd (.nd (.nd .lf (some ((OT.l [0,1,2,3] .nil),[(2,[1])])) .lf) none .lf) none .lf)
def or16:Tr (OT × List (Nat × List Nat)):=(.nd (.nd (.nd .lf (some ((OT.l [0,1,2,3] .nil),[(2,[1])])) .lf) none .lf) none .lf)
def or17:Tr (OT × List (Nat × List Nat)):=(.nd .lf none (.nd (.nd .lf none (.nd .lf (some ((OT.l [0,1,2,3,4,5,6,7,8,9,10,11,12,13,14,15,16,17,18,19] .nil),[])) .lf)) none (.nd (.nd (.nd .lf (some ((OT.l [0,1,2,3,4,5,6,7,8,9,10,11,12,13,14,15,16,17,18,19] .nil),[])) .lf) none .lf) (some ((OT.l [0,1,2,3,4,5,6,7,8,9,10,11,12,13,14,15,16,17,18,19] .nil),[])) (.nd .lf none (.nd .lf (some ((OT.l [0,1,2,3,4,5,6,7,8,9,10,11,12,13,14,15,16,17,18,19] .nil),[])) .lf)))))
def or18:Tr (OT × List (Nat × List Nat)):=(.nd (.nd (.nd .lf (some ((OT.l [0,1,2,3] .nil),[(2,[1])])) .lf) none .lf) none (.nd (.nd (.nd .lf (some ((OT.l [0,1,2,3] .nil),[(2,[1])])) .lf) none .lf) none (.nd .lf (some ((OT.l [0,1,2,3,4,5,6,7,8,9] .nil),[])) .lf)))
def or19:Tr (OT × List (Nat × List Nat)):=(.nd (.nd (.nd .lf (some ((OT.l [0,1,2,3] .nil),[(2,[1])])) .lf) none .lf) none (.nd .lf none (.nd (.nd .lf (some ((OT.l [0,1,2,3,4,5,6] .nil),[(5,[4])])) .lf) none .lf)))
def or22:Tr (OT × List (Nat × List Nat)):=(.nd (.nd (.nd .lf none (.nd (.nd .lf (some ((OT.l [0,1,2,3,4,5,6,7,9,10,11,12,8,13,14,15,16,17,18] .nil),[(8,[2,10]),(13,[2]),(14,[2])])) .lf) none .lf)) none .lf) none (.nd (.nd (.nd .lf none (.nd .lf (some ((OT.l [0,1,2,6,7,10,11,3,4,5,8,9,12,13,14,15,16] .nil),[(3,[7,11]),(8,[11])])) .lf)) none .lf) none (.nd .lf none (.nd (.nd (.nd .lf (some ((OT.l [0,1,2,3,4,5,6,7,8,9,10,11] .nil),[(6,[2])])) .lf) none .lf) none .lf))))
def or29:Tr (OT × List (Nat × List Nat)):=(.nd .lf none (.nd (.nd .lf none (.nd .lf (some ((OT.l [0,1,2,3,4,5,6,7,8,9,10,11] .nil),[])) .lf)) none (.nd .lf (some ((OT.l [0,1,2,3,4,5,6,7,8,9,10,11,12,13,14,15,16,17,18,19,20,21,22,23,24,25,26,27,28,29,30,31,32,33] .nil),[(8,[12,14,18,24,26,30]),(19,[24,26,30])])) .lf)))
def or34:Tr (OT × List (Nat × List Nat)):=(.nd (.nd .lf none (.nd .lf (some ((OT.l [0,1,2,4,5,8,3,6,7] .nil),[(3,[5])])) .lf)) none .lf)
def or38:Tr (OT × List (Nat × List Nat)):=(.nd (.nd (.nd (.nd .lf (some ((OT.l [0,1,2,3,4,5,6] .nil),[(5,[4])])) .lf) none .lf) none (.nd .lf (some ((OT.l [0,1,2,3,4,5,6,7,8,9] .nil),[])) .lf)) none .lf)
def or39:Tr (OT × List (Nat × List Nat)):=(.nd (.nd .lf none (.nd (.nd .lf (some ((OT.l [0,1,2,3,4,5,6] .nil),[(5,[4])])) .lf) none .lf)) none (.nd .lf none (.nd .lf (some ((OT.l [0,1,2,3,4,5,6,7,8,9,10,11,12,13] .nil),[(1,[6,10])])) .lf)))
def or41:Tr (OT × List (Nat × List Nat)):=(.nd (.nd .lf (some ((OT.l [0,1,2,3,4,5,6,7,8,9,10] .nil),[(8,[3,7]),(9,[7])])) .lf) none .lf)
def or42:Tr (OT × List (Nat × List Nat)):=(.nd (.nd .lf (some ((OT.l [0,1,3,4,5,6,2,7,8,9] .nil),[(2,[4,6])])) .lf) none .lf)
def or43:Tr (OT × List (Nat × List Nat)):=(.nd (.nd (.nd .lf (some ((OT.l [0,1,2,3,4,5,6,7,8,9] .nil),[])) .lf) none .lf) none .lf)
def or46:Tr (OT × List (Nat × List Nat)):=(.nd .lf none (.nd .lf (some ((OT.l [0,1,2,3,4,5,6,7,8,9,10,11,12] .nil),[])) .lf))
def or47:Tr (OT × List (Nat × List Nat)):=(.nd .lf none (.nd .lf none (.nd .lf (some ((OT.l [0,1,2,3,4,5,6,7,8,9] .nil),[])) .lf)))
def or48:Tr (OT × List (Nat × List Nat)):=(.nd .lf none (.nd (.nd .lf (some ((OT.l [0,1,2,4,5,8,3,6,7] .nil),[(3,[5])])) .lf) none .lf))
def or49:Tr (OT × List (Nat × List Nat)):=(.nd (.nd (.nd (.nd .lf (some ((OT.l [0,1,2,4,5,8,3,6,7] .nil),[(3,[5])])) .lf) none .lf) none (.nd .lf (some ((OT.l [0,1,2,3,4,5,7,8,6,9,10] .nil),[(6,[8])])) .lf)) none (.nd .lf none (.nd (.nd (.nd .lf (some ((OT.l [0,1,2,3,5,6,4,7,8] .nil),[(4,[6])])) .lf) none .lf) none .lf)))
def or52:Tr (OT × List (Nat × List Nat)):=(.nd (.nd (.nd .lf none (.nd (.nd .lf (some ((OT.l [0,1,4,5,6,7,8,9,2,3,10,11,12,13] .nil),[(2,[5,7])])) .lf) none .lf)) none (.nd (.nd (.nd .lf (some ((OT.l [0,1,2,3,4,5,6,7,8] .nil),[(5,[1])])) .lf) none .lf) none .lf)) none (.nd .lf none (.nd (.nd .lf none (.nd .lf (some ((OT.l [0,1,2,3,4,5,8,9,10,11,12,13,6,7,14,15,16,17] .nil),[(6,[9,13])])) .lf)) none .lf)))
def or54:Tr (OT × List (Nat × List Nat)):=(.nd (.nd .lf (some ((OT.l [0,1,2,3,4,5,6,7,8,9,10,11] .nil),[(9,[1,4])])) .lf) none .lf)
def or55:Tr (OT × List (Nat × List Nat)):=(.nd .lf none (.nd .lf none (.nd (.nd .lf none (.nd .lf (some ((OT.l [0,1,2,3,4,7,8,5,6,9,10,11] .nil),[(5,[1,8]),(9,[1])])) .lf)) none .lf)))
def or58:Tr (OT × List (Nat × List Nat)):=(.nd .lf none (.nd .lf none (.nd .lf (some ((OT.l [0,1,2,3,4,5,6,7,8,9] .nil),[])) .lf)))
def or60:Tr (OT × List (Nat × List Nat)):=(.nd (.nd (.nd (.nd .lf (some ((OT.l [0,1,2,3,4,6,7,8,10,11,12,14,15,16,17,5,9,13,18,19,20,21,22] .nil),[(5,[1,6,8,10,12,15,17]),(9,[1,10,12,15,17]),(13,[1,15,17])])) .lf) (some ((OT.l [0,1,2,4,5,6,7,9,10,11,13,14,15,17,18,19,21,22,23,25,26,27,3,8,12,16,20,24,28,29,30,31] .nil),[(3,[5,6,9,11,13,15,17,19,21,23,25,27]),(8,[9,11,13,15,17,19,21,23,25,27]),(12,[13,15,17,19,21,23,25,27]),(16,[17,19,21,23,25,27]),(20,[21,23,25,27]),(24,[25,27]),(30,[0,2,5,6,9,11,13,15,17,19,21,23,25,27])])) .lf) none .lf) none (.nd (.nd .lf none (.nd .lf (some ((OT.l [0,1,2,3,4,5,6,7,8] .nil),[(4,[1])])) .lf)) none .lf))
def or64:Tr (OT × List (Nat × List Nat)):=(.nd (.nd (.nd (.nd .lf (some ((OT.l [0,1,2,3,4,5,7,8,9,6,10,11,12,13,14,15,16] .nil),[(6,[2,7,9]),(10,[2])])) .lf) (some ((OT.l [0,1,2,3,5,6,7,8,10,11,12,13,15,16,17,18,4,9,14,19,20,21,22] .nil),[(4,[5,8,10,13,15,18]),(9,[10,13,15,18]),(14,[15,18])])) .lf) none .lf) none (.nd (.nd .lf none (.nd .lf (some ((OT.l [0,1,2,4,5,6,8,9,10,3,12,7,11,13,14,15,16,17] .nil),[(3,[4,6,8,10]),(7,[8,10])])) .lf)) (some ((OT.l [0,1,2,4,5,6,8,9,10,12,13,14,16,17,18,20,21,22,3,7,11,15,19,23,24,25,26] .nil),[(3,[4,6,8,10,12,14,16,18,20,22]),(7,[8,10,12,14,16,18,20,22]),(11,[12,14,16,18,20,22]),(15,[16,18,20,22]),(19,[20,22]),(25,[0,2,4,6,8,10,12,14,16,18,20,22])])) (.nd (.nd (.nd .lf (some ((OT.l [0,1,2,3,4,5,6,7,8] .nil),[(4,[1])])) .lf) none .lf) none .lf)))
def or65:Tr (OT × List (Nat × List Nat)):=(.nd .lf none (.nd .lf none (.nd .lf (some ((OT.l [0,1,2,3,4,5,6,7,8,9,10] .nil),[])) .lf)))
def or66:Tr (OT × List (Nat × List Nat)):=(.nd .lf none (.nd .lf none (.nd .lf (some ((OT.l [0,1,2,3,4,5,6,7,8,9,10,11,12,13,14,15,16,17,18,19,20,21,22,23,24,25,26,27,28,29,30,31,32,33,34,35,36,37] .nil),[])) .lf)))
def or67:Tr (OT × List (Nat × List Nat)):=(.nd (.nd (.nd .lf none (.nd (.nd .lf (some ((OT.l [0,1,2,3,4,5,6,7,8,9,10] .nil),[])) .lf) none .lf)) none (.nd .lf none (.nd .lf (some ((OT.l [0,1,2,3,4,5,6,7,8,9,10,11,12,13] .nil),[])) .lf))) none .lf)
def or75:Tr (OT × List (Nat × List Nat)):=(.nd (.nd .lf none (.nd (.nd .lf (some ((OT.l [0,1,2,3,4,5] .nil),[])) .lf) none .lf)) none .lf)
def or83:Tr (OT × List (Nat × List Nat)):=(.nd (.nd (.nd .lf (some ((OT.l [0,1,2] .nil),[])) .lf) none (.nd .lf (some ((OT.l [0,1,2,4,3,5,6] .nil),[(3,[4])])) .lf)) none .lf)
def or86:Tr (OT × List (Nat × List Nat)):=(.nd (.nd (.nd (.nd .lf (some ((OT.l [0,1,2,3,4,5,6,7] .nil),[])) .lf) none (.nd (.nd .lf (some ((OT.l [0,1,2,3,4,5,6,7,8,9,10,11,12,13] .nil),[(7,[0,1,5]),(9,[0])])) .lf) none .lf)) none .lf) none (.nd (.nd (.nd (.nd (.nd .lf (some ((OT.l [0,1,2,3,4,5,6,7,8,9,10,11,12] .nil),[(7,[0,1,4]),(9,[0])])) .lf) (some ((OT.l [0,1,2,3,4,5,6,7,8,9,10,11,12,13,14] .nil),[])) .lf) none (.nd .lf (some ((OT.l [0,2,3,4,5,1,6,7,8] .nil),[(1,[3,5]),(7,[0,3,5])])) .lf)) none (.nd (.nd .lf (some ((OT.l [0,1,2,3,4,5,6,7,8,9,10,11,12,13] .nil),[(7,[0,1,5]),(9,[0])])) .lf) (some ((OT.l [0,1,2,3,4,5,6,7,8,9,10,11,12] .nil),[(8,[0])])) (.nd .lf (some ((OT.l [0,1,2,3,4,5,6,7,8,9,10] .nil),[(7,[0])])) .lf))) none (.nd .lf none (.nd (.nd .lf (some ((OT.l [0,1,2,3,4,5,6] .nil),[])) .lf) (some ((OT.l [0,1,2,3,4,5,6,7,8,9,10,11,12,13,14] .nil),[(9,[0,1,5]),(10,[0])])) (.nd .lf (some ((OT.l [0,1,2,3,4,5,6] .nil),[])) .lf)))))
def or88:Tr (OT × List (Nat × List Nat)):=(.nd (.nd .lf none (.nd .lf (some ((OT.l [0,1,2,3,4,5,6,7,8,9,10,11,12] .nil),[])) .lf)) none .lf)
def or90:Tr (OT × List (Nat × List Nat)):=(.nd (.nd (.nd (.nd (.nd .lf (some ((OT.l [0,1,2,3,4,5,6,7,8,9,10,11,12,13,14] .nil),[])) .lf) none (.nd .lf (some ((OT.l [0,1,2,3,4,5,6,7,8,9,10,11,12,13,14,15,16] .nil),[])) .lf)) none (.nd .lf none (.nd .lf (some ((OT.l [0,1,2,3,4,5,6,7,8,9,10,11,12,13,14,15,16] .nil),[])) .lf))) none (.nd .lf none (.nd (.nd .lf (some ((OT.l [0,1,2,3,4,5,6,7,8,9,10,11,12,13,14,15] .nil),[(8,[6])])) .lf) none .lf))) none (.nd (.nd (.nd .lf (some ((OT.l [0,1,2,3,4,5,6,7,8,9,10,11,12,13,14,15] .nil),[(8,[6])])) .lf) none .lf) none .lf))
def or91:Tr (OT × List (Nat × List Nat)):=(.nd (.nd (.nd .lf (some ((OT.l [0,1,2,3,4,5,6,7,8,9,10] .nil),[])) .lf) (some ((OT.l [0,1,2,3,4,5,6,7,8,9] .nil),[])) .lf) none .lf)
def or94:Tr (OT × List (Nat × List Nat)):=(.nd .lf none (.nd .lf (some ((OT.l [0,1,2,3,4,5,6,7,8,9] .nil),[])) .lf))
def or95:Tr (OT × List (Nat × List Nat)):=(.nd (.nd .lf none (.nd (.nd .lf (some ((OT.l [0,1,2,3,4,5,6,7,8,9,10,11] .nil),[(10,[3,7,9])])) .lf) none .lf)) none .lf)
def or103:Tr (OT × List (Nat × List Nat)):=(.nd (.nd .lf (some ((OT.l [0,1,2,3,5,6,7,8,9,4,10,11] .nil),[(4,[8])])) .lf) none .lf)
def or104:Tr (OT × List (Nat × List Nat)):=(.nd (.nd (.nd .lf (some ((OT.l [0,1,2,3,4,5,6,7,8,9,10,11,12,13,14,15,16,17,18,19,20,21] .nil),[])) .lf) (some ((OT.l [0,1,2,3,4,5,6,7,8,9] .nil),[])) .lf) (some ((OT.l [0,1,2,3,4,5,6,7,8,9,10,11,12,13,14,15,16,17,18,19,20,21,22,23,24,25] .nil),[])) .lf)
def or105:Tr (OT × List (Nat × List Nat)):=(.nd (.nd (.nd (.nd (.nd .lf (some ((OT.l [0,1,2,3,4,5,6,7,8,9,10,11,12,13,14,15,16,17,18] .nil),[])) .lf) none .lf) none .lf) none .lf) (some ((OT.l [0,1,2,3,4,5,6,7,8,9] .nil),[])) .lf)
def or111:Tr (OT × List (Nat × List Nat)):=(.nd (.nd (.nd .lf (some ((OT.l [0,1,2,3,4,5,6,7] .nil),[])) .lf) none .lf) none .lf)
def or112:Tr (OT × List (Nat × List Nat)):=(.nd (.nd (.nd (.nd .lf (some ((OT.l [0,1,2,3,4,6,7,8,5,9,10,11,12,13,14] .nil),[(5,[1,6,8]),(9,[1])])) .lf) (some ((OT.l [0,1,2,3,5,6,7,8,10,11,12,14,15,16,4,9,13,17,18,19,20] .nil),[(4,[5,7,8,12,16]),(9,[12,16]),(13,[16]),(19,[0,2,3,5,7,8,12,16])])) .lf) none .lf) none .lf)
def or113:Tr (OT × List (Nat × List Nat)):=(.nd (.nd .lf none (.nd .lf (some ((OT.l [0,1,2,4,5,6,8,9,10,3,12,7,11,13,14,15,16,17] .nil),[(3,[6,10]),(7,[10])])) .lf)) none .lf)
def or116:Tr (OT × List (Nat × List Nat)):=(.nd (.nd (.nd (.nd .lf (some ((OT.l [0,1,2,4,5,6,8,9,10,3,12,7,11,13,14,15,16,17] .nil),[(3,[6,10]),(7,[10])])) .lf) none .lf) (some ((OT.l [0,1,2,4,5,6,8,9,10,11,3,7,12,13,14] .nil),[(3,[6,9,11]),(7,[9,11]),(13,[2,6,9,11])])) (.nd .lf none (.nd .lf (some ((OT.l [0,1,2,3,4,5,6,7,8,9,10] .nil),[(5,[1])])) .lf))) none (.nd .lf none (.nd (.nd (.nd .lf (some ((OT.l [0,1,2,3,4,5,6,7,8] .nil),[(4,[1])])) .lf) none .lf) none .lf)))
def or122:Tr (OT × List (Nat × List Nat)):=(.nd (.nd .lf none (.nd .lf (some ((OT.l [0,1,2,4,5,6,8,9,10,3,12,7,11,13,14,15,16,17] .nil),[(3,[4,6,8,10]),(7,[8,10])])) .lf)) none .lf)
def or124:Tr (OT × List (Nat × List Nat)):=(.nd .lf none (.nd .lf none (.nd .lf (some ((OT.l [0,1,2,4,5,6,8,9,10,3,12,7,11,13,14,15,16,17,18,19] .nil),[(3,[4,6,8,10]),(7,[8,10])])) .lf)))
def or127:Tr (OT × List (Nat × List Nat)):=(.nd (.nd (.nd .lf none (.nd .lf (some ((OT.l [0,1,2,3,4,5,6,7,8,9,10] .nil),[(5,[1])])) .lf)) (some ((OT.l [0,1,2,4,5,6,8,9,10,12,13,14,15,3,7,11,16,17,18] .nil),[(3,[4,6,8,10,13,15]),(7,[8,10,13,15]),(11,[13,15]),(17,[0,2,4,6,8,10,13,15])])) (.nd .lf (some ((OT.l [0,1,2,4,5,6,8,9,10,12,13,14,3,16,7,11,15,17,18,19,20,21,22,23] .nil),[(3,[4,6,8,10,12,14]),(7,[8,10,12,14]),(11,[12,14])])) .lf)) none .lf)
def or128:Tr (OT × List (Nat × List Nat)):=(.nd .lf none (.nd .lf none (.nd .lf (some ((OT.l [0,1,2,3,4,5,6,7,8] .nil),[])) .lf)))
def or129:Tr (OT × List (Nat × List Nat)):=(.nd .lf none (.nd .lf none (.nd .lf (some ((OT.l [0,1,2,3,4,5,6,7,8,9] .nil),[])) .lf)))
def or130:Tr (OT × List (Nat × List Nat)):=(.nd .lf none (.nd .lf none (.nd .lf (some ((OT.l [0,1,2,3,4,5,6,7,8] .nil),[])) .lf)))
def or131:Tr (OT × List (Nat × List Nat)):=(.nd .lf none (.nd .lf none (.nd .lf (some ((OT.l [0,1,2,3,4,5,6,7,8] .nil),[])) .lf)))
def or140:Tr (OT × List (Nat × List Nat)):=(.nd (.nd (.nd (.nd (.nd .lf (some ((OT.l [0,1,2,3,4,5] .nil),[])) .lf) (some ((OT.l [0,1,2,3,4,5,6,7] .nil),[])) .lf) (some ((OT.l [0,1,2,3,4,5,6] .nil),[])) (.nd .lf (some ((OT.l [0,1,2,3,4,5,6] .nil),[])) .lf)) none (.nd (.nd (.nd .lf (some ((OT.l [0,1,2,3,4,5,6] .nil),[])) .lf) (some ((OT.l [0,1,2,3,4,5,6] .nil),[])) .lf) (some ((OT.l [0,1,2,3,4,5,6,7] .nil),[])) .lf)) none .lf)
def or147:Tr (OT × List (Nat × List Nat)):=(.nd (.nd (.nd .lf (some ((OT.l [0,1,2,3,4,5,6,7] .nil),[])) .lf) none .lf) none (.nd (.nd .lf (some ((OT.l [0,1,2,3,4,5,6,7,8,9,10,11,12,13] .nil),[(7,[0,1,5]),(9,[0])])) .lf) none .lf))
def or149:Tr (OT × List (Nat × List Nat)):=(.nd (.nd (.nd .lf (some ((OT.l [0,1,2,3,4,5,6,7,8,9,10,11] .nil),[(10,[3,7,9])])) .lf) (some ((OT.l [0,1,2,3,4,5,6,7,8,9] .nil),[])) .lf) none .lf)
def or152:Tr (OT × List (Nat × List Nat)):=(.nd (.nd (.nd (.nd .lf (some ((OT.l [0,1,2,3,4,5,6,7] .nil),[(3,[1])])) .lf) none .lf) none .lf) none .lf)
def or154:Tr (OT × List (Nat × List Nat)):=(.nd (.nd .lf (some ((OT.l [0,2,3,4,5,1,6,7,8] .nil),[(1,[3,5]),(7,[3,5])])) .lf) none .lf)
def or155:Tr (OT × List (Nat × List Nat)):=(.nd (.nd (.nd .lf none (.nd .lf (some ((OT.l [0,1,2,3,4,5,6] .nil),[])) .lf)) none (.nd (.nd .lf (some ((OT.l [0,1,2,3,4,5] .nil),[(2,[0])])) .lf) none (.nd .lf (some ((OT.l [0,1,2,3,4,5,6,7,8,9,10,11] .nil),[(6,[0,1,4]),(8,[0])])) .lf))) none (.nd (.nd (.nd (.nd .lf (some ((OT.l [0,1,2,3,4,5] .nil),[(2,[0])])) .lf) none .lf) none .lf) none (.nd .lf (some ((OT.l [0,1,2,3,4,5] .nil),[(2,[0])])) .lf)))
def or156:Tr (OT × List (Nat × List Nat)):=(.nd (.nd .lf (some ((OT.l [0,1,2,3,4,5,6,7,8,9,10,11,12,13,14,15,16,17,18,19,20,21,22,23,24,25,26,27,28,29,30,31,32,33,34,35,36,37,38,39,40,41,42,43,44] .nil),[(1,[6,10,18,22,25,33,37,40])])) .lf) none .lf)
def or157:Tr (OT × List (Nat × List Nat)):=(.nd (.nd .lf (some ((OT.l [0,1,2,3,4,5,6,7,8,9,10,11,12,13,14,15,16,17,18,19,20,21,22,23,24,25,26,27,28,29,30,31,32,33,34,35,36,37,38,39,40,41,42,43] .nil),[(1,[6,10,18,22,25,32,36,39])])) .lf) none .lf)
def or161:Tr (OT × List (Nat × List Nat)):=(.nd (.nd .lf none (.nd (.nd .lf (some ((OT.l [0,1,2,3,4,5,6,7,8,9,10,11,12,13,14,15,16,17] .nil),[])) (.nd .lf (some ((OT.l [0,1,2,3,4,5,6,7] .nil),[(3,[1])])) .lf)) none .lf)) none (.nd (.nd .lf none (.nd (.nd (.nd .lf (some ((OT.l [0,1,2,3,4,5,6,7,8,9,10,11,12,13,14] .nil),[])) .lf) none .lf) none .lf)) none (.nd (.nd (.nd .lf (some ((OT.l [0,1,2,3,4,5,6,7,8,9,10] .nil),[])) .lf) (some ((OT.l [0,1,2,3,4,5,6,7,8,9,10,11,12,13,14,15,16] .nil),[])) .lf) (some ((OT.l [0,1,2,3,4,5,6,7,8,9,10,11,12,13,14,15,16,17] .nil),[])) .lf)))
def or162:Tr (OT × List (Nat × List Nat)):=(.nd (.nd (.nd (.nd .lf (some ((OT.l [0,1,2,3,4,5,6,7,8,9,10,11,12,13,14] .nil),[])) .lf) none .lf) none .lf) none (.nd (.nd .lf (some ((OT.l [0,1,2,3,4,5,6,7] .nil),[(3,[1])])) .lf) none .lf))
def or163:Tr (OT × List (Nat × List Nat)):=(.nd (.nd (.nd (.nd .lf (some ((OT.l [0,1,2,3,4,5,6,7,8,9,10,11,12] .nil),[])) .lf) none .lf) none .lf) none .lf)
def or164:Tr (OT × List (Nat × List Nat)):=(.nd .lf none (.nd (.nd .lf none (.nd (.nd .lf (some ((OT.l [0,1,2,3,4,5,6,7,8,9,10,11,12,13] .nil),[(7,[5])])) .lf) none .lf)) none (.nd (.nd .lf (some ((OT.l [0,1,2,3,4,5,6,7,8,9,10,11,12,13] .nil),[(7,[5])])) .lf) none .lf)))
def or167:Tr (OT × List (Nat × List Nat)):=(.nd (.nd (.nd (.nd .lf (some ((OT.l [0,1,2,3,4,5,6,7] .nil),[(3,[1]),(6,[1,2])])) .lf) none .lf) none .lf) none (.nd .lf none (.nd .lf (some ((OT.l [0,1,2,3,4,5] .nil),[(3,[1])])) .lf)))
def or172:Tr (OT × List (Nat × List Nat)):=(.nd .lf none (.nd .lf none (.nd (.nd .lf (some ((OT.l [0,1,2,3,4,5,6,7,8,9] .nil),[(5,[1])])) .lf) none .lf)))
def or173:Tr (OT × List (Nat × List Nat)):=(.nd (.nd (.nd (.nd (.nd (.nd .lf (some ((OT.l [0,1,2,3,4,5,6,7,8,9] .nil),[(5,[1])])) .lf) none .lf) (some ((OT.l [0,1,2,3,4,5,6,7,8,9,10,11,12,13,14] .nil),[])) .lf) (some ((OT.l [0,1,2,3,4,5,6,7,8,9,10,11,12,13,14,15,16,17,18,19,20,21,22,23,24,25,26,27,28,29,30,31,32,33,34,35] .nil),[(1,[7,11,14,16,23,27,30,32])])) .lf) none (.nd (.nd .lf (some ((OT.l [0,1,2,3,4,5,6,7,8,9,10,11,12,13,14,15,16,17] .nil),[(1,[7,11,14])])) .lf) none (.nd (.nd .lf (some ((OT.l [0,1,2,3,4,5,6,7,8,9] .nil),[(5,[1])])) .lf) none (.nd .lf (some ((OT.l [0,1,2,3,4,5,6,7,8,9] .nil),[(5,[1])])) .lf)))) none .lf)
def or175:Tr (OT × List (Nat × List Nat)):=(.nd (.nd .lf none (.nd .lf (some ((OT.l [0,1,2,3,4,5,7,8,6,9,10] .nil),[(6,[8])])) .lf)) none (.nd .lf none (.nd (.nd (.nd .lf (some ((OT.l [0,1,2,3,5,6,4,7,8] .nil),[(4,[6])])) .lf) none .lf) none .lf)))
def or177:Tr (OT × List (Nat × List Nat)):=(.nd (.nd (.nd .lf (some ((OT.l [0,1,2,3,4,5,6,7,8,9,10,11,12,13,14] .nil),[(8,[4])])) .lf) none .lf) none .lf)
def or178:Tr (OT × List (Nat × List Nat)):=(.nd (.nd .lf (some ((OT.l [0,1,2,3,4,5,6,7,8,9,10,11,12,13] .nil),[])) .lf) none .lf)
def or188:Tr (OT × List (Nat × List Nat)):=(.nd (.nd .lf (some ((OT.l [0,1,2,3,4,5,6,7,8,9,10,11,12,13,14,15,16,17,18,19,20,21,22,23,24,25,26,27,28,29,30,31,32,33] .nil),[])) .lf) none .lf)
def or191:Tr (OT × List (Nat × List Nat)):=(.nd .lf (some ((OT.l [0,1,2,3,4,5,6,7,8,9,10,11,12,13,14,15,16,17,18,19,20,21,22,23,24,25,26] .nil),[])) .lf)
def or192:Tr (OT × List (Nat × List Nat)):=(.nd (.nd .lf (some ((OT.l [0,1,2,3,4,5,6,7,8,9,10,11] .nil),[(9,[7])])) .lf) none (.nd .lf (some ((OT.l [0,1,2,3,4,5,6,7,8,9,10] .nil),[])) .lf))
def or194:Tr (OT × List (Nat × List Nat)):=(.nd (.nd .lf (some ((OT.l [0,1,2,3,4,5,6,7,8,9,10,11,12,13,14,15,16,17,18,19,20,21,22,23,24,25] .nil),[])) .lf) none (.nd .lf (some ((OT.l [0,1,2,3,4,5,6,7,8,9,10,11,12,13,14,15,16,17] .nil),[])) .lf))
def or195:Tr (OT × List (Nat × List Nat)):=(.nd (.nd .lf none (.nd .lf (some ((OT.l [0,1,2,3,4,5,6,7,8,9,10,11,12,13,14,15,16,17,18,19,20] .nil),[])) .lf)) none .lf)
def or200:Tr (OT × List (Nat × List Nat)):=(.nd (.nd (.nd .lf none (.nd .lf (some ((OT.l [0,1,2,3,4,5,6,7,8,9] .nil),[(6,[1])])) .lf)) none .lf) none (.nd .lf none (.nd .lf (some ((OT.l [0,1,2,4,5,6,7,9,10,11,3,13,8,12,14,15,16,17,18] .nil),[(3,[4,6,7,9,11]),(8,[9,11])])) .lf)))
def or201:Tr (OT × List (Nat × List Nat)):=(.nd (.nd .lf (some ((OT.l [0,1,3,4,6,7,2,9,5,8,10,11,12,13,14] .nil),[(2,[4,7]),(5,[7])])) .lf) none .lf)
def or203:Tr (OT × List (Nat × List Nat)):=(.nd .lf none (.nd .lf none (.nd .lf (some ((OT.l [0,1,2,4,5,6,3,8,7,9,10,11] .nil),[(3,[6])])) .lf)))
def or206:Tr (OT × List (Nat × List Nat)):=(.nd (.nd .lf none (.nd .lf (some ((OT.l [0,1,2,3,4,5,6,7,8,9,10,11,12,13] .nil),[(10,[1,3,5]),(12,[1,3,5,7])])) .lf)) none (.nd (.nd (.nd (.nd .lf (some ((OT.l [0,1,2,3,4,5,6,7,8,9] .nil),[])) .lf) none .lf) none .lf) none .lf))
def or207:Tr (OT × List (Nat × List Nat)):=(.nd .lf none (.nd (.nd .lf none (.nd .lf (some ((OT.l [0,1,2,3,4,5,6,7,8,9,10] .nil),[])) .lf)) none (.nd .lf (some ((OT.l [0,1,2,3,4,5,6,7,8,9,10] .nil),[])) .lf)))
def or208:Tr (OT × List (Nat × List Nat)):=(.nd .lf none (.nd .lf none (.nd .lf (some ((OT.l [0,1,2,3,4,5,6,7,8] .nil),[])) .lf)))
def or209:Tr (OT × List (Nat × List Nat)):=(.nd .lf none (.nd .lf none (.nd .lf (some ((OT.l [0,1,2,3,4,5,6,7,8] .nil),[])) .lf)))
def or210:Tr (OT × List (Nat × List Nat)):=(.nd (.nd (.nd .lf none (.nd (.nd .lf (some ((OT.l [0,1,2,3,4,5,6,7] .nil),[(5,[3])])) .lf) none .lf)) none .lf) none .lf)
def or213:Tr (OT × List (Nat × List Nat)):=(.nd .lf none (.nd .lf none (.nd .lf (some ((OT.l [0,1,2,3,4,5,6] .nil),[])) .lf)))
def or215:Tr (OT × List (Nat × List Nat)):=(.nd (.nd (.nd (.nd .lf (some ((OT.l [0,1,2,3,4,5,6,7,8,9,10,11,12,13,14,15,16,17,18,19,20,21,22,23,24] .nil),[])) .lf) none .lf) none (.nd .lf (some ((OT.l [0,1,2,3,4,5,6,7,8,9,10,11] .nil),[(9,[7])])) .lf)) none (.nd .lf (some ((OT.l [0,1,2,3,4,5,6,7,8,9] .nil),[])) (.nd (.nd .lf (some ((OT.l [0,1,2,3] .nil),[])) .lf) none .lf)))
def or224:Tr (OT × List (Nat × List Nat)):=(.nd (.nd (.nd (.nd (.nd .lf (some ((OT.l [0,1,2,3,4,5,6,7,8,9,10,11] .nil),[(6,[4])])) .lf) none .lf) none (.nd .lf (some ((OT.l [0,1,2,3,4,5,6,7,8,9,10,11,12,13,14] .nil),[(8,[4])])) .lf)) (some ((OT.l [0,2,3,4,5,1,6,7,8] .nil),[(1,[3,5]),(7,[3,5])])) .lf) none (.nd (.nd (.nd .lf (some ((OT.l [0,1,2,3,4,5,6,7,8,9,10] .nil),[])) .lf) none .lf) none .lf))
def or226:Tr (OT × List (Nat × List Nat)):=(.nd .lf none (.nd .lf (some ((OT.l [0,2,3,4,5,1,6,7,8] .nil),[(1,[3,5]),(7,[3,5])])) .lf))
def or227:Tr (OT × List (Nat × List Nat)):=(.nd (.nd (.nd .lf (some ((OT.l [0,1,2,3,4,5,6] .nil),[])) .lf) none .lf) none (.nd (.nd .lf (some ((OT.l [0,1,2,3,4,5,6,7,8,9,10,11] .nil),[(6,[0,1,4]),(8,[0])])) .lf) none .lf))
def or229:Tr (OT × List (Nat × List Nat)):=(.nd (.nd .lf (some ((OT.l [0,1,2,3,4,5,6,7,8,9,10,11,12,13,14,15,16,17,18,19,20,21,22,23,24,25,26,27,28,29] .nil),[(1,[6,10,18,22,25])])) .lf) none .lf)
def or231:Tr (OT × List (Nat × List Nat)):=(.nd .lf none (.nd (.nd .lf (some ((OT.l [0,1,2,3,4,5,6,7,8,9,10,11] .nil),[])) .lf) none .lf))
def or232:Tr (OT × List (Nat × List Nat)):=(.nd (.nd (.nd .lf (some ((OT.l [0,1,2,3,4,5,6,7,8,9,10,11,12,13,14,15,16,17,18,19,20,21,22,23] .nil),[])) .lf) (some ((OT.l [0,1,2,3,4,5,6,7,8,9] .nil),[])) .lf) none (.nd .lf (some ((OT.l [0,1,2,3,4,5,6,7,8,9] .nil),[])) .lf))
def or235:Tr (OT × List (Nat × List Nat)):=(.nd .lf none (.nd .lf none (.nd .lf none (.nd .lf (some ((OT.l [0,1,2,3,4,5,6,7,8,9,10,11,12] .nil),[])) .lf))))
def or239:Tr (OT × List (Nat × List Nat)):=(.nd .lf none (.nd (.nd .lf (some ((OT.l [0,1,2,3,4,5,6,8] (.pair 7 9)),[])) .lf) none .lf))
def or249:Tr (OT × List (Nat × List Nat)):=(.nd (.nd (.nd .lf (some ((OT.l [0,1,2,3,4,5,6,7,8,9,10,11,12,13] .nil),[])) .lf) none .lf) none .lf)
def or251:Tr (OT × List (Nat × List Nat)):=(.nd (.nd .lf none (.nd .lf none (.nd .lf (some ((OT.l [0,1,2,3,4,5] .nil),[(3,[0])])) .lf))) none .lf)
def or252:Tr (OT × List (Nat × List Nat)):=(.nd (.nd .lf none (.nd .lf (some ((OT.l [0,1,2,3,4,5,6,7,8,9,10,11,12] .nil),[])) .lf)) none .lf)
def or277:Tr (OT × List (Nat × List Nat)):=(.nd (.nd .lf (some ((OT.l [0,1,2,3,4,5,6,7,8,9] .nil),[])) .lf) (some ((OT.l [0,1,2,3,4,5,6,7,8,9] .nil),[])) .lf)
def or278:Tr (OT × List (Nat × List Nat)):=(.nd (.nd .lf (some ((OT.l [0,1,2,3,4,5,6,7,8,9] .nil),[])) .lf) none (.nd .lf none (.nd (.nd .lf (some ((OT.l [0,1,2,3,4,5,6,7,8,9,10,11,12,13,14,15,16,17,18] .nil),[])) .lf) none .lf)))
def or279:Tr (OT × List (Nat × List Nat)):=(.nd (.nd (.nd .lf (some ((OT.l [0,1,2,3,4,5,6,7,8,9] .nil),[])) .lf) none .lf) none .lf)
def or285:Tr (OT × List (Nat × List Nat)):=(.nd (.nd (.nd .lf none (.nd (.nd .lf (some ((OT.l [0,1,2,3,4,5,6,7] .nil),[(3,[1])])) .lf) (some ((OT.l [0,1,2,3,4,5,6,7,8,9,10] .nil),[])) .lf)) none (.nd (.nd .lf none (.nd .lf (some ((OT.l [0,1,2,3,4,5,6,7,8,9,10,11] .nil),[(6,[4])])) .lf)) none (.nd (.nd .lf (some ((OT.l [0,1,2,3,4,5,6,7,8,9,10] .nil),[])) .lf) none .lf))) none .lf)
def or286:Tr (OT × List (Nat × List Nat)):=(.nd (.nd (.nd .lf (some ((OT.l [0,1,2,3,4,6,7,5,8,9,11] (.pair 10 12)),[(5,[1])])) .lf) (some ((OT.l [0,1,2,3,4,6,7,5,8,9,11] (.pair 10 12)),[(5,[1])])) .lf) none .lf)
def or292:Tr (OT × List (Nat × List Nat)):=(.nd .lf (some ((OT.l [0,1,2,3,4] .nil),[(2,[0])])) .lf)
def or295:Tr (OT × List (Nat × List Nat)):=(.nd (.nd (.nd .lf (some ((OT.l [0,1,2,3,4,5,6] .nil),[])) .lf) none .lf) none .lf)
def or297:Tr (OT × List (Nat × List Nat)):=(.nd (.nd (.nd .lf (some ((OT.l [0,1,2,3,4,5,6,7,8,9] .nil),[])) .lf) none .lf) none .lf)
def or309:Tr (OT × List (Nat × List Nat)):=(.nd (.nd (.nd (.nd .lf (some ((OT.l [0,1,2,3,4,5,6,7,8,9,10,11,12,13,14] .nil),[])) (.nd .lf (some ((OT.l [0,1,2,3,4,5,6,7,8,9,10,11,12,13,14] .nil),[])) .lf)) none .lf) none (.nd (.nd (.nd .lf (some ((OT.l [0,1,2,3,4,5,6,7,8,9,10,11,12,13,14] .nil),[])) .lf) (some ((OT.l [0,1,2,3,4,5,6,7,8,9,10,11,12,13,14] .nil),[])) .lf) none .lf)) none (.nd (.nd (.nd .lf (some ((OT.l [0,1,2,3,4,5,6,7,8,9,10,11,12,13,14] .nil),[])) .lf) none .lf) none (.nd (.nd (.nd .lf (some ((OT.l [0,1,2,3,4,5,6,7,8,9,10,11,12,13,14] .nil),[])) .lf) (some ((OT.l [0,1,2,3,4,5,6,7,8,9,10,11,12,13,14] .nil),[])) .lf) none .lf)))
def or312:Tr (OT × List (Nat × List Nat)):=(.nd (.nd .lf none (.nd (.nd .lf (some ((OT.l [0,1,2,3,4,5,6,7,8,9,10,11,12,13,14,15,16,17,18,19] .nil),[])) .lf) none .lf)) none (.nd .lf none (.nd (.nd (.nd .lf (some ((OT.l [0,1,2,3,4,5,6,7,8,9,10,11,12,13,14,15,16,17,18,19] .nil),[])) .lf) none .lf) none .lf)))
def or313:Tr (OT × List (Nat × List Nat)):=(.nd (.nd .lf none (.nd (.nd .lf (some ((OT.l [0,1,2,3,4,5,6,7,8,9,10,11,12,13,14,15,16,17,18,19] .nil),[])) .lf) none .lf)) none .lf)
def or335:Tr (OT × List (Nat × List Nat)):=(.nd (.nd .lf (some ((OT.l [0,1,3,2,4,5,6] .nil),[(2,[3])])) .lf) none .lf)
def or336:Tr (OT × List (Nat × List Nat)):=(.nd (.nd .lf (some ((OT.l [0,1,3,2,4,5,6] .nil),[(2,[3])])) .lf) none .lf)
def or340:Tr (OT × List (Nat × List Nat)):=(.nd (.nd (.nd (.nd (.nd (.nd .lf (some ((OT.l [0,1,2,3,4,5,6,7,8,9,10] .nil),[])) .lf) none .lf) (some ((OT.l [0,1,2,3,4,5,6,7,8] .nil),[])) .lf) none .lf) none .lf) none (.nd .lf none (.nd .lf (some ((OT.l [0,1,2,3,4,5,6] .nil),[])) (.nd .lf (some ((OT.l [0,1,2,3,4,5,6,7,8,9,10] .nil),[])) .lf))))
def orT:Tr (Tr (OT × List (Nat × List Nat))):=(.nd (.nd (.nd (.nd (.nd (.nd (.nd (.nd .lf (some or127) .lf) none (.nd .lf (some or191) .lf)) none (.nd .lf (some or95) .lf)) (some or15) (.nd (.nd .lf none (.nd (.nd .lf (some or335) .lf) (some or207) .lf)) (some or47) (.nd (.nd .lf (some or175) .lf) (some or111) (.nd .lf (some or239) .lf)))) none (.nd (.nd .lf (some or39) (.nd (.nd (.nd .lf (some or295) .lf) (some or167) .lf) (some or103) (.nd .lf (some or231) .lf))) none (.nd (.nd (.nd (.nd .lf (some or279) .lf) none .lf) none (.nd .lf (some or215) .lf)) (some or55) .lf))) none (.nd (.nd (.nd (.nd (.nd .lf (some or131) .lf) (some or67) (.nd .lf (some or195) .lf)) none (.nd (.nd .lf (some or163) .lf) none (.nd .lf (some or227) .lf))) (some or19) (.nd (.nd (.nd .lf (some or147) .lf) (some or83) .lf) none .lf)) none (.nd (.nd (.nd .lf (some or75) (.nd .lf (some or203) .lf)) (some or43) (.nd .lf none (.nd .lf (some or235) .lf))) none (.nd (.nd (.nd .lf (some or155) .lf) (some or91) .lf) none (.nd .lf none (.nd .lf (some or251) .lf)))))) none (.nd (.nd (.nd (.nd (.nd (.nd .lf (some or129) .lf) (some or65) .lf) none (.nd (.nd .lf (some or161) .lf) none .lf)) (some or17) (.nd (.nd .lf none (.nd .lf (some or209) .lf)) (some or49) (.nd (.nd .lf (some or177) .lf) (some or113) .lf))) none (.nd (.nd (.nd .lf none (.nd .lf (some or201) .lf)) (some or41) (.nd (.nd (.nd .lf (some or297) .lf) none .lf) (some or105) .lf)) none (.nd .lf none (.nd (.nd (.nd .lf (some or313) .lf) none .lf) none (.nd .lf (some or249) .lf))))) (some or5) (.nd (.nd (.nd .lf none (.nd .lf none (.nd .lf (some or229) .lf))) none (.nd (.nd (.nd (.nd .lf (some or277) .lf) (some or149) .lf) none (.nd .lf (some or213) .lf)) none (.nd (.nd (.nd .lf (some or309) .lf) none .lf) none .lf))) none (.nd (.nd .lf none (.nd (.nd .lf (some or173) .lf) none .lf)) (some or29) (.nd (.nd (.nd (.nd .lf (some or285) .lf) (some or157) .lf) none .lf) none .lf))))) none (.nd (.nd (.nd (.nd (.nd (.nd (.nd .lf (some or128) .lf) (some or64) (.nd .lf (some or192) .lf)) none (.nd .lf none (.nd .lf (some or224) .lf))) (some or16) (.nd (.nd .lf none (.nd (.nd .lf (some or336) .lf) (some or208) .lf)) (some or48) (.nd .lf (some or112) .lf))) none (.nd (.nd (.nd .lf none (.nd .lf (some or200) .lf)) none (.nd .lf (some or104) (.nd .lf (some or232) .lf))) none (.nd (.nd (.nd .lf (some or152) .lf) (some or88) .lf) none (.nd (.nd (.nd .lf (some or312) .lf) none .lf) none .lf)))) none (.nd (.nd (.nd .lf none (.nd (.nd (.nd .lf (some or292) .lf) (some or164) .lf) none .lf)) none (.nd (.nd .lf none (.nd (.nd .lf (some or340) .lf) none .lf)) (some or52) (.nd .lf (some or116) .lf))) none (.nd (.nd (.nd (.nd .lf (some or140) .lf) none .lf) none (.nd (.nd .lf (some or172) .lf) none .lf)) none (.nd (.nd (.nd .lf (some or156) .lf) none .lf) (some or60) (.nd (.nd .lf (some or188) .lf) (some or124) (.nd .lf (some or252) .lf)))))) none (.nd (.nd (.nd (.nd (.nd (.nd .lf (some or130) .lf) (some or66) (.nd .lf (some or194) .lf)) (some or34) (.nd (.nd .lf (some or162) .lf) none (.nd .lf (some or226) .lf))) (some or18) (.nd (.nd .lf none (.nd .lf (some or210) .lf)) none (.nd (.nd .lf (some or178) .lf) none .lf))) none (.nd (.nd .lf (some or42) .lf) none (.nd (.nd (.nd .lf (some or154) .lf) (some or90) .lf) (some or58) (.nd .lf (some or122) .lf)))) (some or6) (.nd (.nd (.nd .lf (some or38) .lf) (some or22) (.nd (.nd (.nd (.nd .lf (some or278) .lf) none .lf) (some or86) .lf) (some or54) .lf)) none (.nd (.nd (.nd .lf none (.nd .lf (some or206) .lf)) (some or46) .lf) none (.nd (.nd (.nd (.nd .lf (some or286) .lf) none .lf) (some or94) .lf) none .lf))))))
def ordS (f r:Nat):Option (OT × List (Nat × List Nat)):=match orT.get f with
 | some t=>t.get r
 | none=>none
noncomputable def fnS (f:FuncId):Option FX:=match Tryz.prog.funcs[f]? with
 | some fn=>match fn.body with
  | some c=>some ⟨c,fn.ntmps,fn.results.toList,Nat.beq f 38||Nat.beq f 18⟩
  | none=>none
 | none=>none
end Go.AV
end
section
namespace Go.AV
open Go Go.Proofs
noncomputable def cxd:Cx:={ cx with det:=true }
theorem cxd_tt (t:TypeId):cxd.tt t=cx.tt t:=rfl
theorem cxd_P:cxd.P=Tryz.prog:=rfl
noncomputable def c40:Code:=match Tryz.f40.body with
 | some (.seq _ c)=>c
 | _=>.skip
theorem ex40q (s:St):Ex cxd 14 c40 (fun x _ s'=>x=.normal∧s'=s) [(5,.nili)] s:=by
 refine wpC_ok (V:=[0,2,3,4,5,6,7,8,9,10,11,12,13]) _ _ _ _ ?_;simp only[c40,Tryz.f40];simp only[go_sem,List.map,Nat.reduceLT,Nat.reduceEqDiff,Nat.reduceBEq,Nat.reduceAdd,Nat.reduceLeDiff,Nat.reduceMul,reduceIte,true_and,and_true,List.elem,decide_true,decide_false,Bool.not_true,Bool.not_false,reduceCtorEq,Nat.le_refl,gC1,gC3,List.getElem?_cons_zero,List.getElem?_cons_succ,Nat.zero_add,Nat.add_zero,gD2,gD3,List.set_cons_zero,List.set_cons_succ,List.take_succ_cons,List.take_zero,List.drop_succ_cons,List.take_nil,Nat.succ_eq_add_one,Int.le_refl,Int.toNat_zero,Nat.sub_zero,Nat.zero_lt_succ,Bool.and_true,Bool.true_and,Bool.and_false,Bool.false_and,cxd_tt]
theorem newB_cxd (s:St) (t:TypeId) (cs:List A) (KV:St→A→Prop):newB cxd s t cs KV=KV (s.newO (.cells t cs)) (.ptr s.lim 0):=rfl
theorem ex40l (s:St) (b:Nat) (x0 x1 x2 x3 y0 y1 y2 y3:A) (hb:s.getO b=some (.cells 36 [y0,y1,y2,y3])) (hl:s.getO s.lim=none) (h0:x0.one=true) (h1:x1.one=true) (h2:x2.one=true) (h3:x3.one=true) :
  Ex cxd 14 c40 (fun x _ s'=>x=.normal∧s'.ge ((s.newO (.cells 36 [x0,x1,x2,x3])).setO b (.cells 36 [x0,x1,x2,x3]))∧s'.lim=s.lim+1) [(0,.ptr b 0),(5,.iface 36 (.agg [x0,x1,x2,x3]))] s:=by
 have hne:¬ s.lim=b:=by rintro rfl;rw[hb] at hl;cases hl
 refine wpC_ok (V:=[0,2,3,4,5,6,7,8,9,10,11,12,13]) _ _ _ _ ?_;simp only[c40,Tryz.f40];simp only[go_sem,List.map,Nat.reduceLT,Nat.reduceEqDiff,Nat.reduceBEq,Nat.reduceAdd,Nat.reduceLeDiff,Nat.reduceMul,reduceIte,true_and,and_true,List.elem,decide_true,decide_false,Bool.not_true,Bool.not_false,reduceCtorEq,Nat.le_refl,gC1,gC3,List.getElem?_cons_zero,List.getElem?_cons_succ,Nat.zero_add,Nat.add_zero,gD2,gD3,List.set_cons_zero,List.set_cons_succ,List.take_succ_cons,List.take_zero,List.drop_succ_cons,List.take_nil,Nat.succ_eq_add_one,Int.le_refl,Int.toNat_zero,Nat.sub_zero,Nat.zero_lt_succ,Bool.and_true,Bool.true_and,Bool.and_false,Bool.false_and,cxd_tt,h0,h1,h2,h3];rw[newB_cxd];simp only[go_sem,List.map,Nat.reduceLT,Nat.reduceEqDiff,Nat.reduceBEq,Nat.reduceAdd,Nat.reduceLeDiff,Nat.reduceMul,reduceIte,true_and,and_true,List.elem,decide_true,decide_false,Bool.not_true,Bool.not_false,reduceCtorEq,Nat.le_refl,gC1,gC3,List.getElem?_cons_zero,List.getElem?_cons_succ,Nat.zero_add,Nat.add_zero,gD2,gD3,List.set_cons_zero,List.set_cons_succ,List.take_succ_cons,List.take_zero,List.drop_succ_cons,List.take_nil,Nat.succ_eq_add_one,Int.le_refl,Int.toNat_zero,Nat.sub_zero,Nat.zero_lt_succ,Bool.and_true,Bool.true_and,Bool.and_false,Bool.false_and,cxd_tt,h0,h1,h2,h3,St.getO_newO,hne,hb,↓reduceIte];have ho:(x0.one&&(x1.one&&(x2.one&&x3.one)))=true:=by rw[h0,h1,h2,h3];rfl
 refine ⟨ho,ho,?_⟩;refine ⟨⟨fun c o hc=>?_,fun u n hu=>hu,fun _ hx=>hx⟩,rfl⟩;rw[gA1,St.getO_newO] at hc;rw[gA1,gA1,St.getO_newO];by_cases e1:b=c
 ·simpa only[e1,↓reduceIte] using hc
 ·simp only[e1,↓reduceIte] at hc ⊢;by_cases e2:s.lim=c
  ·simpa only[e2,↓reduceIte] using hc
  ·simpa only[e2,↓reduceIte] using hc
theorem body40 : Tryz.f40.body = some (.seq (.region 0 #[⟨some 5,.call ⟨.builtin .recover,#[],#[]⟩,20,"parse.go:505",#[],none⟩] false) c40) := rfl
theorem res40 (a:Act) (w:World):(results Tryz.f40 a.tmps).run cxd.P w=.ok (.tuple #[]) w:=by
 have e0:results Tryz.f40 a.tmps=(do let vs ← (#[]:Array ResultVar).mapM (resF a.tmps);pure (if h:vs.size=1 then vs[0] else .tuple vs)):=rfl;rw[e0];simp
theorem step40 {P:Program} {Q:Exit→Act→List Frame→World→Prop} {a:Act} {cs:List Frame} {w:World}
  (h : match recoverD cs with
   | some (v,cs')=>Q .normal (a.put (some 5) v) cs' w
   | none=>Q .normal (a.put (some 5) .nilIface) cs w) :
  (Code.region 0 #[⟨some 5,.call ⟨.builtin .recover,#[],#[]⟩,20,"parse.go:505",#[],none⟩] false).wpS P Q a cs w := by
 refine wpS_region ?_;have hr : List.range (#[(⟨some 5,.call ⟨.builtin .recover,#[],#[]⟩,20,"parse.go:505",#[],none⟩ : Oper)]).size = [0] := rfl;rw [hr];unfold wpOpsS;have ho : (#[(⟨some 5,.call ⟨.builtin .recover,#[],#[]⟩,20,"parse.go:505",#[],none⟩ : Oper)])[0]? = some ⟨some 5,.call ⟨.builtin .recover,#[],#[]⟩,20,"parse.go:505",#[],none⟩ := rfl;rw [ho];simp only;rw [if_pos (by simp [Region.wanted])];have hx : (execOp a.eval ⟨some 5,.call ⟨.builtin .recover,#[],#[]⟩,20,"parse.go:505",#[],none⟩).run P w = .ok .recover w := rfl;rw [hx];simp only;cases hrec : recoverD cs with
 | none=>rw[hrec] at h;simp only;unfold wpOpsS;exact h
 | some x=>obtain ⟨v,cs'⟩:=x;rw[hrec] at h;simp only;unfold wpOpsS;exact h
theorem env40 {g:Gh} (vals:Array Value) (hv:vals.size=1):EnvOk g 14 [] (vals++Array.replicate (Tryz.f40.ntmps-vals.size) undef) :=
 .nil (by rw[hv];simp[hv,Tryz.f40])
theorem catch_ok:Catch cxd 40 36 where
 quiet:=by
  intro F g s w p hR;refine callsD_of_wpS (fn:=Tryz.f40) Tryz.func40 body40 fun c₀ cs hu=>?_
  refine wpS_seq (step40 ?_);have hrec:recoverD (c₀::cs)=none:=by simp[recoverD,hu]
  rw[hrec];refine wpS_of_wp ?_;have hE:=(env40 (g:=g) #[p] rfl).put (a:=⟨_,[]⟩) (d:=5) (x:=.nili) (v:=.nilIface) (by decide) .nili;refine Code.wp_mono (fun ex a' w' hp=>?_) (ex40q s F g w _ hR hE);obtain ⟨g',e',s',x,h1,h2,h3,h4,h5,rfl,rfl⟩:=hp;cases ex<;>try exact h5.elim
  refine ⟨h4,.returning,by rw[← hu],_,res40 a' w',⟨_,rfl⟩,rfl,g',h1,h2⟩
 loud:=by
  intro F g s w b k cs fs v hR hbk hb hv hl hti;obtain ⟨ti,hti,hsz⟩:=hti
  have h4:fs.length=4:=by
   rw[cxd_tt,tt36] at hti;cases hti;exact hsz.symm
  obtain ⟨x0,x1,x2,x3,rfl⟩:∃ x0 x1 x2 x3,fs=[x0,x1,x2,x3]:=by
   match fs,h4 with
   | [x0,x1,x2,x3],_=>exact ⟨x0,x1,x2,x3,rfl⟩
  obtain ⟨y0,y1,y2,y3,rfl⟩:∃ x0 x1 x2 x3,cs=[x0,x1,x2,x3]:=by
   match cs,hl with
   | [x0,x1,x2,x3],_=>exact ⟨x0,x1,x2,x3,rfl⟩
  obtain ⟨vs,hv1,hv2,hone⟩:=hv.agg_inv;refine callsD_of_wpS (fn:=Tryz.f40) Tryz.func40 body40 fun c₀ cs hu=>?_
  refine wpS_seq (step40 ?_);have hrec:recoverD (c₀::cs)=some (.iface 36 v,{ c₀ with mode:=.panicking [{ v:=.iface 36 v,recovered:=true }] }::cs):=by simp[recoverD,hu]
  rw[hrec];refine wpS_of_wp ?_
  have hE0:EnvOk g 14 [(0,.ptr b 0)] (#[Value.pointer (some ⟨k,0,none⟩)]++Array.replicate (Tryz.f40.ntmps-(#[Value.pointer (some ⟨k,0,none⟩)]).size) undef):=by
   refine ⟨by simp[Tryz.f40],fun t a ha=>?_⟩;simp only[Env.get] at ha;split at ha
   ·rename_i ht;subst ht;cases ha;exact ⟨_,rfl,.ptr b 0 k hbk⟩
   ·cases ha
  have hE:=hE0.put (a:=⟨_,[]⟩) (d:=5) (x:=.iface 36 (.agg [x0,x1,x2,x3])) (v:=.iface 36 v) (by decide) (.iface 36 _ v hv);have hlim:s.getO s.lim=none:=hR.free (hR.dtm rfl s.lim (Nat.le_refl _)).1;refine Code.wp_mono (fun ex a' w' hp=>?_) (ex40l s b x0 x1 x2 x3 y0 y1 y2 y3 hb hlim (hone x0 (by simp)) (hone x1 (by simp)) (hone x2 (by simp)) (hone x3 (by simp)) F g w _ hR hE);obtain ⟨g',e',s',x,h1,h2,h3,h4,h5,rfl,h6,h7⟩:=hp;cases ex<;>try exact h5.elim
  refine ⟨h4,.panicking [{ v:=.iface 36 v,recovered:=true }],rfl,_,res40 a' w',⟨_,rfl⟩,rfl,g',h1,h2.weaken h6 (fun _=>by rw[h7];exact Nat.le_refl _)⟩
end Go.AV
end
