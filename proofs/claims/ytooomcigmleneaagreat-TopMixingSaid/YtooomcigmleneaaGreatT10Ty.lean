import Derived.Test.YtooomcigmleneaaGreatKyJ
import Derived.Test.YtooomcigmleneaaGreatT10Data
import Derived.Test.YtooomcigmleneaaGreatKyP
import Derived.Test.YtooomcigmleneaaGreatKyG
import Derived.Test.YtooomcigmleneaaGreatKxU
import Derived.KernelRfl
set_option linter.all false
namespace Go.Proofs.T10
open Tryz
open Go Go.Kx
instance:TF prog 23 0 0:=⟨_,_,_,runUnderlying23,rfl,sizeOf3,rfl⟩
instance:TF prog 23 1 1:=⟨_,_,_,runUnderlying23,rfl,sizeOf3,rfl⟩
instance:TF prog 25 0 0:=⟨_,_,_,runUnderlying25,rfl,sizeOf3,rfl⟩
instance:TF prog 25 1 1:=⟨_,_,_,runUnderlying25,rfl,sizeOf3,rfl⟩
instance:TF prog 25 2 2:=⟨_,_,_,runUnderlying25,rfl,sizeOf3,rfl⟩
instance:TF prog 25 3 3:=⟨_,_,_,runUnderlying25,rfl,sizeOf3,rfl⟩
instance:TF prog 25 4 4:=⟨_,_,_,runUnderlying25,rfl,sizeOf3,rfl⟩
instance:TF prog 25 5 5:=⟨_,_,_,runUnderlying25,rfl,sizeOf3,rfl⟩
instance:TF prog 25 6 6:=⟨_,_,_,runUnderlying25,rfl,sizeOf23,rfl⟩
instance:TF prog 25 7 8:=⟨_,_,_,runUnderlying25,rfl,sizeOf23,rfl⟩
instance:TU prog 26 (.slice 102):=⟨runUnderlying26⟩
instance:TU prog 27 (.slice 3):=⟨runUnderlying27⟩
instance:TU prog 28 (.slice 23):=⟨runUnderlying28⟩
instance:TU prog 29 (.slice 108):=⟨runUnderlying29⟩
instance:TF prog 31 0 0:=⟨_,_,_,runUnderlying31,rfl,sizeOf28,rfl⟩
instance:TF prog 31 1 1:=⟨_,_,_,runUnderlying31,rfl,sizeOf29,rfl⟩
instance:TF prog 33 0 0:=⟨_,_,_,runUnderlying33,rfl,sizeOf3,rfl⟩
instance:TF prog 33 1 1:=⟨_,_,_,runUnderlying33,rfl,sizeOf23,rfl⟩
instance:TF prog 33 2 3:=⟨_,_,_,runUnderlying33,rfl,sizeOf3,rfl⟩
instance:TF prog 35 0 0:=⟨_,_,_,runUnderlying35,rfl,sizeOf25,rfl⟩
instance:TF prog 35 1 10:=⟨_,_,_,runUnderlying35,rfl,sizeOf26,rfl⟩
instance:TF prog 35 2 11:=⟨_,_,_,runUnderlying35,rfl,sizeOf27,rfl⟩
instance:TF prog 35 3 12:=⟨_,_,_,runUnderlying35,rfl,sizeOf31,rfl⟩
instance:TF prog 35 4 14:=⟨_,_,_,runUnderlying35,rfl,sizeOf33,rfl⟩
instance:TF prog 37 0 0:=⟨_,_,_,runUnderlying37,rfl,sizeOf3,rfl⟩
instance:TF prog 37 1 1:=⟨_,_,_,runUnderlying37,rfl,sizeOf27,rfl⟩
instance:TF prog 37 2 2:=⟨_,_,_,runUnderlying37,rfl,sizeOf27,rfl⟩
instance:TF prog 37 3 3:=⟨_,_,_,runUnderlying37,rfl,sizeOf27,rfl⟩
instance:TU prog 47 (.slice 128):=⟨runUnderlying47⟩
instance:TF prog 49 0 0:=⟨_,_,_,runUnderlying49,rfl,sizeOf3,rfl⟩
instance:TF prog 49 1 1:=⟨_,_,_,runUnderlying49,rfl,sizeOf3,rfl⟩
instance:TF prog 51 0 0:=⟨_,_,_,runUnderlying51,rfl,sizeOf47,rfl⟩
instance:TF prog 51 1 1:=⟨_,_,_,runUnderlying51,rfl,sizeOf49,rfl⟩
instance:TF prog 51 2 3:=⟨_,_,_,runUnderlying51,rfl,sizeOf3,rfl⟩
instance:TF prog 51 3 4:=⟨_,_,_,runUnderlying51,rfl,sizeOf3,rfl⟩
instance:TF prog 51 4 5:=⟨_,_,_,runUnderlying51,rfl,sizeOf3,rfl⟩
instance:TU prog 52 (.slice 200):=⟨runUnderlying52⟩
instance:TU prog 53 (.slice 37):=⟨runUnderlying53⟩
instance:TU prog 54 (.slice 76):=⟨runUnderlying54⟩
instance:TU prog 55 (.slice 196):=⟨runUnderlying55⟩
instance:TU prog 56 (.slice 73):=⟨runUnderlying56⟩
instance:TF prog 58 0 0:=⟨_,_,_,runUnderlying58,rfl,sizeOf54,rfl⟩
instance:TF prog 58 1 1:=⟨_,_,_,runUnderlying58,rfl,sizeOf55,rfl⟩
instance:TF prog 58 2 2:=⟨_,_,_,runUnderlying58,rfl,sizeOf47,rfl⟩
instance:TF prog 58 3 3:=⟨_,_,_,runUnderlying58,rfl,sizeOf56,rfl⟩
instance:TF prog 60 0 0:=⟨_,_,_,runUnderlying60,rfl,sizeOf51,rfl⟩
instance:TF prog 60 1 6:=⟨_,_,_,runUnderlying60,rfl,sizeOf3,rfl⟩
instance:TF prog 60 2 7:=⟨_,_,_,runUnderlying60,rfl,sizeOf54,rfl⟩
instance:TF prog 60 3 8:=⟨_,_,_,runUnderlying60,rfl,sizeOf55,rfl⟩
instance:TU prog 67 (.slice 28):=⟨runUnderlying67⟩
instance:TF prog 73 0 0:=⟨_,_,_,runUnderlying73,rfl,sizeOf3,rfl⟩
instance:TF prog 73 1 1:=⟨_,_,_,runUnderlying73,rfl,sizeOf3,rfl⟩
instance:TU prog 74 (.slice 98):=⟨runUnderlying74⟩
instance:TF prog 76 0 0:=⟨_,_,_,runUnderlying76,rfl,sizeOf73,rfl⟩
instance:TF prog 76 1 2:=⟨_,_,_,runUnderlying76,rfl,sizeOf3,rfl⟩
instance:TF prog 76 2 3:=⟨_,_,_,runUnderlying76,rfl,sizeOf3,rfl⟩
instance:TF prog 76 3 4:=⟨_,_,_,runUnderlying76,rfl,sizeOf35,rfl⟩
instance:TF prog 76 4 22:=⟨_,_,_,runUnderlying76,rfl,sizeOf74,rfl⟩
instance:TF prog 76 5 23:=⟨_,_,_,runUnderlying76,rfl,sizeOf56,rfl⟩
instance:TU prog 89 (.slice 92):=⟨runUnderlying89⟩
instance:TU prog 92 (.slice 5):=⟨runUnderlying92⟩
instance:TF prog 98 0 0:=⟨_,_,_,runUnderlying98,rfl,sizeOf3,rfl⟩
instance:TF prog 98 1 1:=⟨_,_,_,runUnderlying98,rfl,sizeOf23,rfl⟩
instance:TF prog 102 0 0:=⟨_,_,_,runUnderlying102,rfl,sizeOf3,rfl⟩
instance:TF prog 102 1 1:=⟨_,_,_,runUnderlying102,rfl,sizeOf3,rfl⟩
instance:TF prog 102 2 2:=⟨_,_,_,runUnderlying102,rfl,sizeOf3,rfl⟩
instance:TF prog 104 0 0:=⟨_,_,_,runUnderlying104,rfl,sizeOf67,rfl⟩
instance:TF prog 108 0 0:=⟨_,_,_,runUnderlying108,rfl,sizeOf3,rfl⟩
instance:TF prog 108 1 1:=⟨_,_,_,runUnderlying108,rfl,sizeOf23,rfl⟩
instance:TF prog 113 0 0:=⟨_,_,_,runUnderlying113,rfl,sizeOf33,rfl⟩
instance:TU prog 126 (.slice 198):=⟨runUnderlying126⟩
instance:TF prog 128 0 0:=⟨_,_,_,runUnderlying128,rfl,sizeOf3,rfl⟩
instance:TF prog 128 1 1:=⟨_,_,_,runUnderlying128,rfl,sizeOf3,rfl⟩
instance:TF prog 128 2 2:=⟨_,_,_,runUnderlying128,rfl,sizeOf3,rfl⟩
instance:TF prog 128 3 3:=⟨_,_,_,runUnderlying128,rfl,sizeOf126,rfl⟩
instance:TU prog 131 (.slice 231):=⟨runUnderlying131⟩
instance:TU prog 157 (.slice 160):=⟨runUnderlying157⟩
instance:TF prog 172 0 0:=⟨_,_,_,runUnderlying172,rfl,sizeOf3,rfl⟩
instance:TF prog 172 1 1:=⟨_,_,_,runUnderlying172,rfl,sizeOf3,rfl⟩
instance:TF prog 174 0 0:=⟨_,_,_,runUnderlying174,rfl,sizeOf28,rfl⟩
instance:TF prog 174 1 1:=⟨_,_,_,runUnderlying174,rfl,sizeOf28,rfl⟩
instance:TF prog 179 0 0:=⟨_,_,_,runUnderlying179,rfl,sizeOf25,rfl⟩
instance:TU prog 182 (.slice 186):=⟨runUnderlying182⟩
instance:TF prog 184 0 0:=⟨_,_,_,runUnderlying184,rfl,sizeOf28,rfl⟩
instance:TF prog 186 0 0:=⟨_,_,_,runUnderlying186,rfl,sizeOf184,rfl⟩
instance:TF prog 186 1 1:=⟨_,_,_,runUnderlying186,rfl,sizeOf4,rfl⟩
instance:TU prog 187 (.slice 184):=⟨runUnderlying187⟩
instance:TF prog 196 0 0:=⟨_,_,_,runUnderlying196,rfl,sizeOf3,rfl⟩
instance:TF prog 196 1 1:=⟨_,_,_,runUnderlying196,rfl,sizeOf3,rfl⟩
instance:TF prog 196 2 2:=⟨_,_,_,runUnderlying196,rfl,sizeOf3,rfl⟩
instance:TF prog 196 3 3:=⟨_,_,_,runUnderlying196,rfl,sizeOf23,rfl⟩
instance:TF prog 198 0 0:=⟨_,_,_,runUnderlying198,rfl,sizeOf3,rfl⟩
instance:TF prog 198 1 1:=⟨_,_,_,runUnderlying198,rfl,sizeOf23,rfl⟩
instance:TF prog 200 0 0:=⟨_,_,_,runUnderlying200,rfl,sizeOf3,rfl⟩
instance:TF prog 200 1 1:=⟨_,_,_,runUnderlying200,rfl,sizeOf3,rfl⟩
instance:TF prog 200 2 2:=⟨_,_,_,runUnderlying200,rfl,sizeOf3,rfl⟩
instance:TF prog 200 3 3:=⟨_,_,_,runUnderlying200,rfl,sizeOf3,rfl⟩
instance:TF prog 200 4 4:=⟨_,_,_,runUnderlying200,rfl,sizeOf3,rfl⟩
instance:TF prog 200 5 5:=⟨_,_,_,runUnderlying200,rfl,sizeOf3,rfl⟩
instance:TF prog 200 6 6:=⟨_,_,_,runUnderlying200,rfl,sizeOf3,rfl⟩
instance:TF prog 200 7 7:=⟨_,_,_,runUnderlying200,rfl,sizeOf35,rfl⟩
instance:TF prog 200 8 25:=⟨_,_,_,runUnderlying200,rfl,sizeOf98,rfl⟩
instance:TF prog 200 9 28:=⟨_,_,_,runUnderlying200,rfl,sizeOf196,rfl⟩
instance:TF prog 200 10 33:=⟨_,_,_,runUnderlying200,rfl,sizeOf198,rfl⟩
instance:TF prog 200 11 36:=⟨_,_,_,runUnderlying200,rfl,sizeOf73,rfl⟩
instance:TF prog 218 0 0:=⟨_,_,_,runUnderlying218,rfl,sizeOf35,rfl⟩
instance:TF prog 218 1 18:=⟨_,_,_,runUnderlying218,rfl,sizeOf74,rfl⟩
instance:TF prog 218 2 19:=⟨_,_,_,runUnderlying218,rfl,sizeOf55,rfl⟩
instance:TF prog 218 3 20:=⟨_,_,_,runUnderlying218,rfl,sizeOf3,rfl⟩
instance:TF prog 218 4 21:=⟨_,_,_,runUnderlying218,rfl,sizeOf67,rfl⟩
instance:TF prog 218 5 22:=⟨_,_,_,runUnderlying218,rfl,sizeOf28,rfl⟩
instance:TF prog 218 8 25:=⟨_,_,_,runUnderlying218,rfl,sizeOf27,rfl⟩
instance:TU prog 225 (.slice 172):=⟨runUnderlying225⟩
instance:TF prog 231 0 0:=⟨_,_,_,runUnderlying231,rfl,sizeOf3,rfl⟩
instance:TF prog 231 1 1:=⟨_,_,_,runUnderlying231,rfl,sizeOf3,rfl⟩
instance:TF prog 231 2 2:=⟨_,_,_,runUnderlying231,rfl,sizeOf3,rfl⟩
instance:TU prog 278 (.slice 52):=⟨runUnderlying278⟩
instance:TF prog 289 0 0:=⟨_,_,_,runUnderlying289,rfl,sizeOf280,rfl⟩
instance:TF prog 289 1 1:=⟨_,_,_,runUnderlying289,rfl,sizeOf280,rfl⟩
instance:TF prog 289 2 2:=⟨_,_,_,runUnderlying289,rfl,sizeOf282,rfl⟩
instance:TF prog 289 3 3:=⟨_,_,_,runUnderlying289,rfl,sizeOf283,rfl⟩
instance:TF prog 289 4 4:=⟨_,_,_,runUnderlying289,rfl,sizeOf284,rfl⟩
instance:TF prog 289 5 5:=⟨_,_,_,runUnderlying289,rfl,sizeOf285,rfl⟩
instance:TF prog 289 6 6:=⟨_,_,_,runUnderlying289,rfl,sizeOf286,rfl⟩
instance:TF prog 289 7 7:=⟨_,_,_,runUnderlying289,rfl,sizeOf287,rfl⟩
instance:TF prog 289 8 8:=⟨_,_,_,runUnderlying289,rfl,sizeOf58,rfl⟩
instance:TF prog 296 0 0:=⟨_,_,_,runUnderlying296,rfl,sizeOf294,rfl⟩
instance:TF prog 296 1 1:=⟨_,_,_,runUnderlying296,rfl,sizeOf3,rfl⟩
instance:TF prog 296 2 2:=⟨_,_,_,runUnderlying296,rfl,sizeOf3,rfl⟩
instance:TF prog 323 0 0:=⟨_,_,_,runUnderlying323,rfl,sizeOf321,rfl⟩
instance:TF prog 323 1 1024:=⟨_,_,_,runUnderlying323,rfl,sizeOf49,rfl⟩
instance:TF prog 323 2 1026:=⟨_,_,_,runUnderlying323,rfl,sizeOf47,rfl⟩
instance:TF prog 448 0 0:=⟨_,_,_,runUnderlying448,rfl,sizeOf296,rfl⟩
instance:TF prog 448 1 3:=⟨_,_,_,runUnderlying448,rfl,sizeOf35,rfl⟩
instance:TF prog 450 0 0:=⟨_,_,_,runUnderlying450,rfl,sizeOf73,rfl⟩
instance:TF prog 450 1 2:=⟨_,_,_,runUnderlying450,rfl,sizeOf98,rfl⟩
instance:TF prog 452 0 0:=⟨_,_,_,runUnderlying452,rfl,sizeOf294,rfl⟩
instance:TF prog 452 1 1:=⟨_,_,_,runUnderlying452,rfl,sizeOf196,rfl⟩
instance:TF prog 454 0 0:=⟨_,_,_,runUnderlying454,rfl,sizeOf3,rfl⟩
instance:TF prog 454 1 1:=⟨_,_,_,runUnderlying454,rfl,sizeOf198,rfl⟩
instance:TF prog 456 0 0:=⟨_,_,_,runUnderlying456,rfl,sizeOf73,rfl⟩
instance:TS prog 3 1:=⟨sizeOf3⟩
instance:TS prog 4 1:=⟨sizeOf4⟩
instance:TS prog 5 1:=⟨sizeOf5⟩
instance:TS prog 23 2:=⟨sizeOf23⟩
instance:TS prog 25 10:=⟨sizeOf25⟩
instance:TS prog 26 1:=⟨sizeOf26⟩
instance:TS prog 27 1:=⟨sizeOf27⟩
instance:TS prog 28 1:=⟨sizeOf28⟩
instance:TS prog 29 1:=⟨sizeOf29⟩
instance:TS prog 31 2:=⟨sizeOf31⟩
instance:TS prog 33 4:=⟨sizeOf33⟩
instance:TS prog 35 18:=⟨sizeOf35⟩
instance:TS prog 37 4:=⟨sizeOf37⟩
instance:TS prog 47 1:=⟨sizeOf47⟩
instance:TS prog 49 2:=⟨sizeOf49⟩
instance:TS prog 51 6:=⟨sizeOf51⟩
instance:TS prog 52 1:=⟨sizeOf52⟩
instance:TS prog 54 1:=⟨sizeOf54⟩
instance:TS prog 55 1:=⟨sizeOf55⟩
instance:TS prog 56 1:=⟨sizeOf56⟩
instance:TS prog 58 4:=⟨sizeOf58⟩
instance:TS prog 60 9:=⟨sizeOf60⟩
instance:TS prog 67 1:=⟨sizeOf67⟩
instance:TS prog 73 2:=⟨sizeOf73⟩
instance:TS prog 74 1:=⟨sizeOf74⟩
instance:TS prog 76 24:=⟨sizeOf76⟩
instance:TS prog 98 3:=⟨sizeOf98⟩
instance:TS prog 102 3:=⟨sizeOf102⟩
instance:TS prog 104 1:=⟨sizeOf104⟩
instance:TS prog 108 3:=⟨sizeOf108⟩
instance:TS prog 113 4:=⟨sizeOf113⟩
instance:TS prog 126 1:=⟨sizeOf126⟩
instance:TS prog 128 4:=⟨sizeOf128⟩
instance:TS prog 157 1:=⟨sizeOf157⟩
instance:TS prog 160 64:=⟨sizeOf160⟩
instance:TS prog 172 2:=⟨sizeOf172⟩
instance:TS prog 174 2:=⟨sizeOf174⟩
instance:TS prog 179 10:=⟨sizeOf179⟩
instance:TS prog 184 1:=⟨sizeOf184⟩
instance:TS prog 186 2:=⟨sizeOf186⟩
instance:TS prog 187 1:=⟨sizeOf187⟩
instance:TS prog 196 5:=⟨sizeOf196⟩
instance:TS prog 198 3:=⟨sizeOf198⟩
instance:TS prog 200 38:=⟨sizeOf200⟩
instance:TS prog 280 1:=⟨sizeOf280⟩
instance:TS prog 282 1:=⟨sizeOf282⟩
instance:TS prog 283 1:=⟨sizeOf283⟩
instance:TS prog 284 1:=⟨sizeOf284⟩
instance:TS prog 285 1:=⟨sizeOf285⟩
instance:TS prog 286 1:=⟨sizeOf286⟩
instance:TS prog 287 1:=⟨sizeOf287⟩
instance:TS prog 289 12:=⟨sizeOf289⟩
instance:TS prog 294 1:=⟨sizeOf294⟩
instance:TS prog 296 3:=⟨sizeOf296⟩
instance:TS prog 319 32:=⟨sizeOf319⟩
instance:TS prog 321 1024:=⟨sizeOf321⟩
instance:TS prog 439 1:=⟨sizeOf439⟩
instance:TA prog 3 false:=⟨isAgg3⟩
instance:TA prog 4 false:=⟨isAgg4⟩
instance:TA prog 23 true:=⟨isAgg23⟩
instance:TA prog 25 true:=⟨isAgg25⟩
instance:TA prog 26 false:=⟨isAgg26⟩
instance:TA prog 27 false:=⟨isAgg27⟩
instance:TA prog 28 false:=⟨isAgg28⟩
instance:TA prog 29 false:=⟨isAgg29⟩
instance:TA prog 31 true:=⟨isAgg31⟩
instance:TA prog 33 true:=⟨isAgg33⟩
instance:TA prog 35 true:=⟨isAgg35⟩
instance:TA prog 37 true:=⟨isAgg37⟩
instance:TA prog 47 false:=⟨isAgg47⟩
instance:TA prog 49 true:=⟨isAgg49⟩
instance:TA prog 51 true:=⟨isAgg51⟩
instance:TA prog 52 false:=⟨isAgg52⟩
instance:TA prog 54 false:=⟨isAgg54⟩
instance:TA prog 55 false:=⟨isAgg55⟩
instance:TA prog 56 false:=⟨isAgg56⟩
instance:TA prog 58 true:=⟨isAgg58⟩
instance:TA prog 60 true:=⟨isAgg60⟩
instance:TA prog 67 false:=⟨isAgg67⟩
instance:TA prog 73 true:=⟨isAgg73⟩
instance:TA prog 74 false:=⟨isAgg74⟩
instance:TA prog 76 true:=⟨isAgg76⟩
instance:TA prog 92 false:=⟨isAgg92⟩
instance:TA prog 98 true:=⟨isAgg98⟩
instance:TA prog 102 true:=⟨isAgg102⟩
instance:TA prog 104 true:=⟨isAgg104⟩
instance:TA prog 108 true:=⟨isAgg108⟩
instance:TA prog 113 true:=⟨isAgg113⟩
instance:TA prog 122 false:=⟨isAgg122⟩
instance:TA prog 126 false:=⟨isAgg126⟩
instance:TA prog 128 true:=⟨isAgg128⟩
instance:TA prog 157 false:=⟨isAgg157⟩
instance:TA prog 160 true:=⟨isAgg160⟩
instance:TA prog 172 true:=⟨isAgg172⟩
instance:TA prog 174 true:=⟨isAgg174⟩
instance:TA prog 179 true:=⟨isAgg179⟩
instance:TA prog 186 true:=⟨isAgg186⟩
instance:TA prog 187 false:=⟨isAgg187⟩
instance:TA prog 196 true:=⟨isAgg196⟩
instance:TA prog 198 true:=⟨isAgg198⟩
instance:TA prog 200 true:=⟨isAgg200⟩
instance:TA prog 228 false:=⟨isAgg228⟩
instance:TA prog 280 false:=⟨isAgg280⟩
instance:TA prog 282 false:=⟨isAgg282⟩
instance:TA prog 283 false:=⟨isAgg283⟩
instance:TA prog 284 false:=⟨isAgg284⟩
instance:TA prog 285 false:=⟨isAgg285⟩
instance:TA prog 286 false:=⟨isAgg286⟩
instance:TA prog 287 false:=⟨isAgg287⟩
instance:TA prog 294 false:=⟨isAgg294⟩
instance:TA prog 296 true:=⟨isAgg296⟩
instance:TA prog 297 false:=⟨isAgg297⟩
instance:TA prog 439 false:=⟨isAgg439⟩
end Go.Proofs.T10
namespace Go.Proofs.T10
open Tryz
open Go Go.Kx
instance:Rng Span:=⟨fun x=>Rng.ok x.Lo∧Rng.ok x.Hi⟩
instance:Rng Height:=⟨fun x=>Rng.ok x.Week∧Rng.ok x.Metres⟩
instance:Rng Station:=⟨fun x=>Rng.ok x.ID∧Rng.ok x.X∧Rng.ok x.Y∧Rng.ok x.Heights⟩
instance:Rng Wind:=⟨fun x=>Rng.ok x.Fixed∧Rng.ok x.Each⟩
instance:Rng BaseT:=⟨fun x=>Rng.ok x.Stations∧Rng.ok x.Wind∧Rng.ok x.Term∧Rng.ok x.Ticks∧Rng.ok x.Clerks⟩
instance:Rng Paper:=⟨fun x=>Rng.ok x.Pitch∧Rng.ok x.Height∧Rng.ok x.Radius∧Rng.ok x.Low∧Rng.ok x.High∧Rng.ok x.Columns∧Rng.ok x.Along∧Rng.ok x.Across⟩
instance:Rng Point:=⟨fun x=>Rng.ok x.X∧Rng.ok x.Y∧Rng.ok x.Half⟩
instance:Rng Stp:=⟨fun x=>Rng.ok x.Column∧Rng.ok x.Ticks⟩
instance:Rng Drum:=⟨fun x=>Rng.ok x.Rates∧Rng.ok x.Stops⟩
instance:Rng Pen:=⟨fun x=>Rng.ok x.Band∧Rng.ok x.Zero∧Rng.ok x.Rate⟩
instance:Rng Sheet:=⟨fun x=>Rng.ok x.Paper∧Rng.ok x.Trace∧Rng.ok x.Blots∧Rng.ok x.Drum∧Rng.ok x.Pen⟩
instance:Rng Mark:=⟨fun x=>Rng.ok x.Column∧Rng.ok x.Ticks⟩
instance:Rng ReadT:=⟨fun x=>Rng.ok x.Station∧Rng.ok x.Week∧Rng.ok x.Tick∧Rng.ok x.Levels⟩
instance:Rng NName:=⟨fun x=>Rng.ok x.Clerk∧Rng.ok x.Num⟩
instance:Rng NoteT:=⟨fun x=>Rng.ok x.Clerk∧Rng.ok x.Num∧Rng.ok x.Clock∧Rng.ok x.Day∧Rng.ok x.Kind∧Rng.ok x.Station∧Rng.ok x.Week∧Rng.ok x.Sheet∧Rng.ok x.Mark∧Rng.ok x.Read∧Rng.ok x.Height∧Rng.ok x.Ref⟩
instance:Rng Course:=⟨fun x=>Rng.ok x.Zero∧Rng.ok x.Ticks∧Rng.ok x.Shown∧Rng.ok x.Levels⟩
theorem S1:Br prog 3 Int:=Br.int underlying3 (by kernel_rfl)
theorem A7w:Br prog 23 Span:=.struct underlying23 (by kernel_rfl) fun W cs g ez=>by
 obtain⟨a0,r0,k0⟩:=g 0 _ _ rfl rfl S1
 obtain⟨a1,r1,k1⟩:=g 1 _ _ rfl rfl S1
 exact⟨⟨a0,a1⟩,(ct r0 (ct r1 ez)),⟨k0,k1⟩⟩
theorem C2P:Br prog 198 Height:=.struct underlying198 (by kernel_rfl) fun W cs g ez=>by
 obtain⟨a0,r0,k0⟩:=g 0 _ _ rfl rfl S1
 obtain⟨a1,r1,k1⟩:=g 1 _ _ rfl rfl A7w
 exact⟨⟨a0,a1⟩,(ct r0 (ct r1 ez)),⟨k0,k1⟩⟩
theorem C7n:Br prog 126 (List Height):=Br.slice underlying126 (by kernel_rfl) (by rw[show prog.bytesOf 198=24 from by kernel_rfl];decide) C2P
theorem C6X:Br prog 128 Station:=.struct underlying128 (by kernel_rfl) fun W cs g ez=>by
 obtain⟨a0,r0,k0⟩:=g 0 _ _ rfl rfl S1
 obtain⟨a1,r1,k1⟩:=g 1 _ _ rfl rfl S1
 obtain⟨a2,r2,k2⟩:=g 2 _ _ rfl rfl S1
 obtain⟨a3,r3,k3⟩:=g 3 _ _ rfl rfl C7n
 obtain⟨u3_0,r3,s3_0⟩:=r3
 exact⟨⟨a0,a1,a2,a3⟩,⟨u3_0,(ct r0 (ct r1 (ct r2 (ct r3 ez)))),s3_0⟩,⟨k0,k1,k2,k3⟩⟩
theorem C8n:Br prog 47 (List Station):=Br.slice underlying47 (by kernel_rfl) (by rw[show prog.bytesOf 128=48 from by kernel_rfl];decide) C6X
theorem C8K:Br prog 49 Wind:=.struct underlying49 (by kernel_rfl) fun W cs g ez=>by
 obtain⟨a0,r0,k0⟩:=g 0 _ _ rfl rfl S1
 obtain⟨a1,r1,k1⟩:=g 1 _ _ rfl rfl S1
 exact⟨⟨a0,a1⟩,(ct r0 (ct r1 ez)),⟨k0,k1⟩⟩
theorem C8c:Br prog 51 BaseT:=.struct underlying51 (by kernel_rfl) fun W cs g ez=>by
 obtain⟨a0,r0,k0⟩:=g 0 _ _ rfl rfl C8n
 obtain⟨u0_0,r0,s0_0⟩:=r0
 obtain⟨a1,r1,k1⟩:=g 1 _ _ rfl rfl C8K
 obtain⟨a2,r2,k2⟩:=g 2 _ _ rfl rfl S1
 obtain⟨a3,r3,k3⟩:=g 3 _ _ rfl rfl S1
 obtain⟨a4,r4,k4⟩:=g 4 _ _ rfl rfl S1
 exact⟨⟨a0,a1,a2,a3,a4⟩,⟨u0_0,(ct r0 (ct r1 (ct r2 (ct r3 (ct r4 ez))))),s0_0⟩,⟨k0,k1,k2,k3,k4⟩⟩
theorem C8a:Br prog 25 Paper:=.struct underlying25 (by kernel_rfl) fun W cs g ez=>by
 obtain⟨a0,r0,k0⟩:=g 0 _ _ rfl rfl S1
 obtain⟨a1,r1,k1⟩:=g 1 _ _ rfl rfl S1
 obtain⟨a2,r2,k2⟩:=g 2 _ _ rfl rfl S1
 obtain⟨a3,r3,k3⟩:=g 3 _ _ rfl rfl S1
 obtain⟨a4,r4,k4⟩:=g 4 _ _ rfl rfl S1
 obtain⟨a5,r5,k5⟩:=g 5 _ _ rfl rfl S1
 obtain⟨a6,r6,k6⟩:=g 6 _ _ rfl rfl A7w
 obtain⟨a7,r7,k7⟩:=g 7 _ _ rfl rfl A7w
 exact⟨⟨a0,a1,a2,a3,a4,a5,a6,a7⟩,(ct r0 (ct r1 (ct r2 (ct r3 (ct r4 (ct r5 (ct r6 (ct r7 ez)))))))),⟨k0,k1,k2,k3,k4,k5,k6,k7⟩⟩
theorem C7c:Br prog 102 Point:=.struct underlying102 (by kernel_rfl) fun W cs g ez=>by
 obtain⟨a0,r0,k0⟩:=g 0 _ _ rfl rfl S1
 obtain⟨a1,r1,k1⟩:=g 1 _ _ rfl rfl S1
 obtain⟨a2,r2,k2⟩:=g 2 _ _ rfl rfl S1
 exact⟨⟨a0,a1,a2⟩,(ct r0 (ct r1 (ct r2 ez))),⟨k0,k1,k2⟩⟩
theorem C8j:Br prog 26 (List Point):=Br.slice underlying26 (by kernel_rfl) (by rw[show prog.bytesOf 102=24 from by kernel_rfl];decide) C7c
theorem B6N:Br prog 27 (List Int):=Br.slice underlying27 (by kernel_rfl) (by rw[show prog.bytesOf 3=8 from by kernel_rfl];decide) S1
theorem C8f:Br prog 28 (List Span):=Br.slice underlying28 (by kernel_rfl) (by rw[show prog.bytesOf 23=16 from by kernel_rfl];decide) A7w
theorem C7U:Br prog 108 Stp:=.struct underlying108 (by kernel_rfl) fun W cs g ez=>by
 obtain⟨a0,r0,k0⟩:=g 0 _ _ rfl rfl S1
 obtain⟨a1,r1,k1⟩:=g 1 _ _ rfl rfl A7w
 exact⟨⟨a0,a1⟩,(ct r0 (ct r1 ez)),⟨k0,k1⟩⟩
theorem C8B:Br prog 29 (List Stp):=Br.slice underlying29 (by kernel_rfl) (by rw[show prog.bytesOf 108=24 from by kernel_rfl];decide) C7U
theorem C8L:Br prog 31 Drum:=.struct underlying31 (by kernel_rfl) fun W cs g ez=>by
 obtain⟨a0,r0,k0⟩:=g 0 _ _ rfl rfl C8f
 obtain⟨u0_0,r0,s0_0⟩:=r0
 obtain⟨a1,r1,k1⟩:=g 1 _ _ rfl rfl C8B
 obtain⟨u1_0,r1,s1_0⟩:=r1
 exact⟨⟨a0,a1⟩,⟨u0_0,u1_0,(ct r0 (ct r1 ez)),s0_0,s1_0⟩,⟨k0,k1⟩⟩
theorem C8d:Br prog 33 Pen:=.struct underlying33 (by kernel_rfl) fun W cs g ez=>by
 obtain⟨a0,r0,k0⟩:=g 0 _ _ rfl rfl S1
 obtain⟨a1,r1,k1⟩:=g 1 _ _ rfl rfl A7w
 obtain⟨a2,r2,k2⟩:=g 2 _ _ rfl rfl S1
 exact⟨⟨a0,a1,a2⟩,(ct r0 (ct r1 (ct r2 ez))),⟨k0,k1,k2⟩⟩
theorem C8x:Br prog 35 Sheet:=.struct underlying35 (by kernel_rfl) fun W cs g ez=>by
 obtain⟨a0,r0,k0⟩:=g 0 _ _ rfl rfl C8a
 obtain⟨a1,r1,k1⟩:=g 1 _ _ rfl rfl C8j
 obtain⟨u1_0,r1,s1_0⟩:=r1
 obtain⟨a2,r2,k2⟩:=g 2 _ _ rfl rfl B6N
 obtain⟨u2_0,r2,s2_0⟩:=r2
 obtain⟨a3,r3,k3⟩:=g 3 _ _ rfl rfl C8L
 obtain⟨u3_0,u3_1,r3,s3_0,s3_1⟩:=r3
 obtain⟨a4,r4,k4⟩:=g 4 _ _ rfl rfl C8d
 exact⟨⟨a0,a1,a2,a3,a4⟩,⟨u1_0,u2_0,u3_0,u3_1,(ct r0 (ct r1 (ct r2 (ct r3 (ct r4 ez))))),s1_0,s2_0,s3_0,s3_1⟩,⟨k0,k1,k2,k3,k4⟩⟩
theorem C8m:Br prog 98 Mark:=.struct underlying98 (by kernel_rfl) fun W cs g ez=>by
 obtain⟨a0,r0,k0⟩:=g 0 _ _ rfl rfl S1
 obtain⟨a1,r1,k1⟩:=g 1 _ _ rfl rfl A7w
 exact⟨⟨a0,a1⟩,(ct r0 (ct r1 ez)),⟨k0,k1⟩⟩
theorem C7L:Br prog 196 ReadT:=.struct underlying196 (by kernel_rfl) fun W cs g ez=>by
 obtain⟨a0,r0,k0⟩:=g 0 _ _ rfl rfl S1
 obtain⟨a1,r1,k1⟩:=g 1 _ _ rfl rfl S1
 obtain⟨a2,r2,k2⟩:=g 2 _ _ rfl rfl S1
 obtain⟨a3,r3,k3⟩:=g 3 _ _ rfl rfl A7w
 exact⟨⟨a0,a1,a2,a3⟩,(ct r0 (ct r1 (ct r2 (ct r3 ez)))),⟨k0,k1,k2,k3⟩⟩
theorem C8w:Br prog 73 NName:=.struct underlying73 (by kernel_rfl) fun W cs g ez=>by
 obtain⟨a0,r0,k0⟩:=g 0 _ _ rfl rfl S1
 obtain⟨a1,r1,k1⟩:=g 1 _ _ rfl rfl S1
 exact⟨⟨a0,a1⟩,(ct r0 (ct r1 ez)),⟨k0,k1⟩⟩
theorem C7J:Br prog 200 NoteT:=.struct underlying200 (by kernel_rfl) fun W cs g ez=>by
 obtain⟨a0,r0,k0⟩:=g 0 _ _ rfl rfl S1
 obtain⟨a1,r1,k1⟩:=g 1 _ _ rfl rfl S1
 obtain⟨a2,r2,k2⟩:=g 2 _ _ rfl rfl S1
 obtain⟨a3,r3,k3⟩:=g 3 _ _ rfl rfl S1
 obtain⟨a4,r4,k4⟩:=g 4 _ _ rfl rfl S1
 obtain⟨a5,r5,k5⟩:=g 5 _ _ rfl rfl S1
 obtain⟨a6,r6,k6⟩:=g 6 _ _ rfl rfl S1
 obtain⟨a7,r7,k7⟩:=g 7 _ _ rfl rfl C8x
 obtain⟨u7_0,u7_1,u7_2,u7_3,r7,s7_0,s7_1,s7_2,s7_3⟩:=r7
 obtain⟨a8,r8,k8⟩:=g 8 _ _ rfl rfl C8m
 obtain⟨a9,r9,k9⟩:=g 9 _ _ rfl rfl C7L
 obtain⟨a10,r10,k10⟩:=g 10 _ _ rfl rfl C2P
 obtain⟨a11,r11,k11⟩:=g 11 _ _ rfl rfl C8w
 exact⟨⟨a0,a1,a2,a3,a4,a5,a6,a7,a8,a9,a10,a11⟩,⟨u7_0,u7_1,u7_2,u7_3,(ct r0 (ct r1 (ct r2 (ct r3 (ct r4 (ct r5 (ct r6 (ct r7 (ct r8 (ct r9 (ct r10 (ct r11 ez)))))))))))),s7_0,s7_1,s7_2,s7_3⟩,⟨k0,k1,k2,k3,k4,k5,k6,k7,k8,k9,k10,k11⟩⟩
theorem C8G:Br prog 52 (List NoteT):=Br.slice underlying52 (by kernel_rfl) (by rw[show prog.bytesOf 200=368 from by kernel_rfl];decide) C7J
theorem C8k:Br prog 37 Course:=.struct underlying37 (by kernel_rfl) fun W cs g ez=>by
 obtain⟨a0,r0,k0⟩:=g 0 _ _ rfl rfl S1
 obtain⟨a1,r1,k1⟩:=g 1 _ _ rfl rfl B6N
 obtain⟨u1_0,r1,s1_0⟩:=r1
 obtain⟨a2,r2,k2⟩:=g 2 _ _ rfl rfl B6N
 obtain⟨u2_0,r2,s2_0⟩:=r2
 obtain⟨a3,r3,k3⟩:=g 3 _ _ rfl rfl B6N
 obtain⟨u3_0,r3,s3_0⟩:=r3
 exact⟨⟨a0,a1,a2,a3⟩,⟨u1_0,u2_0,u3_0,(ct r0 (ct r1 (ct r2 (ct r3 ez)))),s1_0,s2_0,s3_0⟩,⟨k0,k1,k2,k3⟩⟩
theorem C6x:Br prog 53 (List Course):=Br.slice underlying53 (by kernel_rfl) (by rw[show prog.bytesOf 37=80 from by kernel_rfl];decide) C8k
end Go.Proofs.T10
namespace Go.Proofs.T10
open Tryz
open Go Go.Kx
variable{m:Mem}{p:Addr}
structure FilingT where
 ref:RawV
 station:Int
 week:Int
 deriving Inhabited
instance:Flat FilingT:=⟨3,by decide,fun x=>[x.ref.v,J x.station,J x.week],fun _=>rfl,fun x v hv=>by simp at hv;rcases hv with rfl|rfl|rfl <;> first|rfl|exact RawV.one _⟩
instance:Enc FilingT:=G1 FilingT
instance:FlatEnc FilingT:=⟨rfl,fun _ _=>rfl⟩
structure SheetCt where
 filing:FilingT
 Sheet:Sheet
 deriving Inhabited
instance:Enc SheetCt where
 sz:=21
 pos:=by decide
 rd m vs x:=∃v0 v1 v2 v3:Value,vs=[x.filing.ref.v,J x.filing.station,J x.filing.week,J x.Sheet.Paper.Pitch,J x.Sheet.Paper.Height,J x.Sheet.Paper.Radius,J x.Sheet.Paper.Low,J x.Sheet.Paper.High,J x.Sheet.Paper.Columns,J x.Sheet.Paper.Along.Lo,J x.Sheet.Paper.Along.Hi,J x.Sheet.Paper.Across.Lo,J x.Sheet.Paper.Across.Hi,v0,v1,v2,v3,J x.Sheet.Pen.Band,J x.Sheet.Pen.Zero.Lo,J x.Sheet.Pen.Zero.Hi,J x.Sheet.Pen.Rate]∧Sl m v0 x.Sheet.Trace∧Sl m v1 x.Sheet.Blots∧Sl m v2 x.Sheet.Drum.Rates∧Sl m v3 x.Sheet.Drum.Stops
 len h:=by obtain⟨v0,v1,v2,v3,rfl,h0,h1,h2,h3⟩:=h;rfl
 mono hm h:=by obtain⟨v0,v1,v2,v3,hv,h0,h1,h2,h3⟩:=h;exact⟨v0,v1,v2,v3,hv,h0.mono hm,h1.mono hm,h2.mono hm,h3.mono hm⟩
 one h:=by
  obtain⟨v0,v1,v2,v3,rfl,h0,h1,h2,h3⟩:=h
  intro u hu
  simp at hu
  rcases hu with rfl|rfl|rfl|rfl|rfl|rfl|rfl|rfl|rfl|rfl|rfl|rfl|rfl|rfl|rfl|rfl|rfl|rfl|rfl|rfl|rfl <;> first|rfl|exact h0.one|exact h1.one|exact h2.one|exact h3.one|exact RawV.one _
theorem B3I{x:SheetCt}(h:At m p x):At m (p.add 0) x.filing:=by obtain⟨_,⟨_,_,_,_,rfl,_,_,_,_⟩,c⟩:=h;exact⟨_,rfl,c.cut 0⟩
theorem B2T{x:SheetCt}(h:At m p x):At m (p.add 3) x.Sheet:=by obtain⟨_,⟨_,_,_,_,rfl,h0,h1,h2,h3⟩,c⟩:=h;exact⟨_,⟨_,_,_,_,rfl,h0,h1,h2,h3⟩,c.cut 3⟩
structure MarkCt where
 ref:NName
 Mark:Mark
 deriving DecidableEq,Inhabited
instance:Flat MarkCt:=⟨5,by decide,fun x=>[J x.ref.Clerk,J x.ref.Num,J x.Mark.Column,J x.Mark.Ticks.Lo,J x.Mark.Ticks.Hi],fun _=>rfl,fun x v hv=>by simp at hv;rcases hv with rfl|rfl|rfl|rfl|rfl <;> rfl⟩
instance:Enc MarkCt:=G1 MarkCt
instance:FlatEnc MarkCt:=⟨rfl,fun _ _=>rfl⟩
theorem B4K{x:MarkCt}(h:At m p x):At m (p.add 0) x.ref:=h.fl 0 rfl rfl
theorem B4D{x:MarkCt}(h:At m p x):At m (p.add 2) x.Mark:=h.fl 2 rfl rfl
structure ReadCt where
 ref:RawV
 Read:ReadT
 deriving Inhabited
instance:Flat ReadCt:=⟨6,by decide,fun x=>[x.ref.v,J x.Read.Station,J x.Read.Week,J x.Read.Tick,J x.Read.Levels.Lo,J x.Read.Levels.Hi],fun _=>rfl,fun x v hv=>by simp at hv;rcases hv with rfl|rfl|rfl|rfl|rfl|rfl <;> first|rfl|exact RawV.one _⟩
instance:Enc ReadCt:=G1 ReadCt
instance:FlatEnc ReadCt:=⟨rfl,fun _ _=>rfl⟩
structure HeightCt where
 station:Int
 Height:Height
 deriving DecidableEq,Inhabited
instance:Flat HeightCt:=⟨4,by decide,fun x=>[J x.station,J x.Height.Week,J x.Height.Metres.Lo,J x.Height.Metres.Hi],fun _=>rfl,fun x v hv=>by simp at hv;rcases hv with rfl|rfl|rfl|rfl <;> rfl⟩
instance:Enc HeightCt:=G1 HeightCt
instance:FlatEnc HeightCt:=⟨rfl,fun _ _=>rfl⟩
theorem B2j{x:HeightCt}(h:At m p x):At m (p.add 0) x.station:=h.fl 0 rfl rfl
theorem A6Q{x:HeightCt}(h:At m p x):At m (p.add 1) x.Height:=h.fl 1 rfl rfl
structure WithCt where
 ref:NName
 deriving DecidableEq,Inhabited
instance:Flat WithCt:=⟨2,by decide,fun x=>[J x.ref.Clerk,J x.ref.Num],fun _=>rfl,fun x v hv=>by simp at hv;rcases hv with rfl|rfl <;> rfl⟩
instance:Enc WithCt:=G1 WithCt
instance:FlatEnc WithCt:=⟨rfl,fun _ _=>rfl⟩
theorem B4S{x:WithCt}(h:At m p x):At m (p.add 0) x.ref:=h.fl 0 rfl rfl
theorem A5g(fs:Array Field)(h:prog.underlying 296=some (.struct fs))(w:World):(fs.mapM fun f=>do pure (f.offset,←sizeOf f.type):Sem _).run prog w= .ok #[(0,1),(1,1),(2,1)] w:=by
 rw[underlying296]at h;cases h;simp[sizeOf3,sizeOf294]
theorem B9S(fs:Array Field)(h:prog.underlying 448=some (.struct fs))(w:World):(fs.mapM fun f=>do pure (f.offset,←sizeOf f.type):Sem _).run prog w= .ok #[(0,3),(3,18)] w:=by
 rw[underlying448]at h;cases h;simp[sizeOf35,sizeOf296]
theorem B1G(fs:Array Field)(h:prog.underlying 450=some (.struct fs))(w:World):(fs.mapM fun f=>do pure (f.offset,←sizeOf f.type):Sem _).run prog w= .ok #[(0,2),(2,3)] w:=by
 rw[underlying450]at h;cases h;simp[sizeOf73,sizeOf98]
theorem B1z(fs:Array Field)(h:prog.underlying 452=some (.struct fs))(w:World):(fs.mapM fun f=>do pure (f.offset,←sizeOf f.type):Sem _).run prog w= .ok #[(0,1),(1,5)] w:=by
 rw[underlying452]at h;cases h;simp[sizeOf196,sizeOf294]
theorem B9H(fs:Array Field)(h:prog.underlying 454=some (.struct fs))(w:World):(fs.mapM fun f=>do pure (f.offset,←sizeOf f.type):Sem _).run prog w= .ok #[(0,1),(1,3)] w:=by
 rw[underlying454]at h;cases h;simp[sizeOf3,sizeOf198]
theorem B7T(fs:Array Field)(h:prog.underlying 456=some (.struct fs))(w:World):(fs.mapM fun f=>do pure (f.offset,←sizeOf f.type):Sem _).run prog w= .ok #[(0,2)] w:=by
 rw[underlying456]at h;cases h;simp[sizeOf73]
end Go.Proofs.T10
namespace Go.Proofs.T10
open Tryz
open Go Go.Kx
variable{m:Mem}{p:Addr}
structure StateT where
 column:Int
 ago:Int
 offset:Int
 deriving DecidableEq,Inhabited
instance:Flat StateT:=⟨3,by decide,fun x=>[J x.column,J x.ago,J x.offset],fun _=>rfl,fun x v hv=>by simp at hv;rcases hv with rfl|rfl|rfl <;> rfl⟩
instance:Enc StateT:=G1 StateT
instance:FlatEnc StateT:=⟨rfl,fun _ _=>rfl⟩
structure Chart where
 Sheet:Sheet
 marks:List Mark
 reads:List ReadT
 ticks:Int
 ink:List (List Span)
 gaps:List Span
 L:List StateT
 index:RawV
 zeroes:List Int
 deriving Inhabited
instance:Enc Chart where
 sz:=26
 pos:=by decide
 rd m vs x:=∃v0 v1 v2 v3 v4 v5 v6 v7 v8 v9:Value,vs=[J x.Sheet.Paper.Pitch,J x.Sheet.Paper.Height,J x.Sheet.Paper.Radius,J x.Sheet.Paper.Low,J x.Sheet.Paper.High,J x.Sheet.Paper.Columns,J x.Sheet.Paper.Along.Lo,J x.Sheet.Paper.Along.Hi,J x.Sheet.Paper.Across.Lo,J x.Sheet.Paper.Across.Hi,v0,v1,v2,v3,J x.Sheet.Pen.Band,J x.Sheet.Pen.Zero.Lo,J x.Sheet.Pen.Zero.Hi,J x.Sheet.Pen.Rate,v4,v5,J x.ticks,v6,v7,v8,x.index.v,v9]∧Sl m v0 x.Sheet.Trace∧Sl m v1 x.Sheet.Blots∧Sl m v2 x.Sheet.Drum.Rates∧Sl m v3 x.Sheet.Drum.Stops∧Sl m v4 x.marks∧Sl m v5 x.reads∧Sl m v6 x.ink∧Sl m v7 x.gaps∧Sl m v8 x.L∧Sl m v9 x.zeroes
 len h:=by obtain⟨v0,v1,v2,v3,v4,v5,v6,v7,v8,v9,rfl,h0,h1,h2,h3,h4,h5,h6,h7,h8,h9⟩:=h;rfl
 mono hm h:=by obtain⟨v0,v1,v2,v3,v4,v5,v6,v7,v8,v9,hv,h0,h1,h2,h3,h4,h5,h6,h7,h8,h9⟩:=h;exact⟨v0,v1,v2,v3,v4,v5,v6,v7,v8,v9,hv,h0.mono hm,h1.mono hm,h2.mono hm,h3.mono hm,h4.mono hm,h5.mono hm,h6.mono hm,h7.mono hm,h8.mono hm,h9.mono hm⟩
 one h:=by
  obtain⟨v0,v1,v2,v3,v4,v5,v6,v7,v8,v9,rfl,h0,h1,h2,h3,h4,h5,h6,h7,h8,h9⟩:=h
  intro u hu
  simp at hu
  rcases hu with rfl|rfl|rfl|rfl|rfl|rfl|rfl|rfl|rfl|rfl|rfl|rfl|rfl|rfl|rfl|rfl|rfl|rfl|rfl|rfl|rfl|rfl|rfl|rfl|rfl|rfl <;> first|rfl|exact h0.one|exact h1.one|exact h2.one|exact h3.one|exact h4.one|exact h5.one|exact h6.one|exact h7.one|exact h8.one|exact h9.one|exact RawV.one _
theorem A6f{x:Chart}(h:At m p x):At m (p.add 0) x.Sheet:=by obtain⟨_,⟨_,_,_,_,_,_,_,_,_,_,rfl,h0,h1,h2,h3,_,_,_,_,_,_⟩,c⟩:=h;exact⟨_,⟨_,_,_,_,rfl,h0,h1,h2,h3⟩,c.cut 0⟩
theorem B7n{x:Chart}(h:At m p x):At m (p.add 18) x.marks:=by obtain⟨_,⟨_,_,_,_,_,_,_,_,_,_,rfl,_,_,_,_,h4,_,_,_,_,_⟩,c⟩:=h;exact⟨_,⟨_,rfl,h4⟩,c.cut 18⟩
theorem B7r{x:Chart}(h:At m p x):At m (p.add 19) x.reads:=by obtain⟨_,⟨_,_,_,_,_,_,_,_,_,_,rfl,_,_,_,_,_,h5,_,_,_,_⟩,c⟩:=h;exact⟨_,⟨_,rfl,h5⟩,c.cut 19⟩
theorem A6H{x:Chart}(h:At m p x):At m (p.add 20) x.ticks:=by obtain⟨_,⟨_,_,_,_,_,_,_,_,_,_,rfl,_,_,_,_,_,_,_,_,_,_⟩,c⟩:=h;exact⟨_,rfl,c.cut 20⟩
theorem A9G{x:Chart}(h:At m p x):At m (p.add 21) x.ink:=by obtain⟨_,⟨_,_,_,_,_,_,_,_,_,_,rfl,_,_,_,_,_,_,h6,_,_,_⟩,c⟩:=h;exact⟨_,⟨_,rfl,h6⟩,c.cut 21⟩
theorem B8A(fs:Array Field)(h:prog.underlying 218=some (.struct fs))(w:World):(fs.mapM fun f=>do pure (f.offset,←sizeOf f.type):Sem _).run prog w= .ok #[(0,18),(18,1),(19,1),(20,1),(21,1),(22,1),(23,1),(24,1),(25,1)] w:=by
 rw[underlying218]at h;cases h;simp[sizeOf3,sizeOf27,sizeOf28,sizeOf35,sizeOf55,sizeOf67,sizeOf74,sizeOf215,sizeOf216]
end Go.Proofs.T10
