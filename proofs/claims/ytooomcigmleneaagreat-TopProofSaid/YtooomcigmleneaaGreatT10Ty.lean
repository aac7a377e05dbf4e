import Derived.Test.YtooomcigmleneaaGreatT10Data
set_option linter.all false
namespace Go.Proofs.T10
open Tryz Go Go.Kx
instance:TF prog 23 0 0:=⟨_,_,_,runUnderlying23,rfl,sizeOf3,rfl⟩
instance:TF prog 23 1 1:=⟨_,_,_,runUnderlying23,rfl,sizeOf3,rfl⟩
instance:TF prog 25 0 0:=⟨_,_,_,runUnderlying25,rfl,sizeOf3,rfl⟩
instance:TF prog 25 1 1:=⟨_,_,_,runUnderlying25,rfl,sizeOf3,rfl⟩
instance:TF prog 25 2 2:=⟨_,_,_,runUnderlying25,rfl,sizeOf3,rfl⟩
instance:TF prog 25 3 3:=⟨_,_,_,runUnderlying25,rfl,sizeOf3,rfl⟩
instance:TF prog 25 4 4:=⟨_,_,_,runUnderlying25,rfl,sizeOf3,rfl⟩
instance:TF prog 25 5 5:=⟨_,_,_,runUnderlying25,rfl,sizeOf3,rfl⟩
instance:TF prog 25 6 6:=⟨_,_,_,runUnderlying25,rfl,sizeOf23,rfl⟩
instance:TF prog 25 7 8:=⟨_,_,_,runUnderlying25,rfl,sizeOf23,rfl⟩
instance:TU prog 26 (.slice 102):=⟨runUnderlying26⟩
instance:TU prog 27 (.slice 3):=⟨runUnderlying27⟩
instance:TU prog 28 (.slice 23):=⟨runUnderlying28⟩
instance:TU prog 29 (.slice 108):=⟨runUnderlying29⟩
instance:TF prog 31 0 0:=⟨_,_,_,runUnderlying31,rfl,sizeOf28,rfl⟩
instance:TF prog 31 1 1:=⟨_,_,_,runUnderlying31,rfl,sizeOf29,rfl⟩
instance:TF prog 33 0 0:=⟨_,_,_,runUnderlying33,rfl,sizeOf3,rfl⟩
instance:TF prog 33 1 1:=⟨_,_,_,runUnderlying33,rfl,sizeOf23,rfl⟩
instance:TF prog 33 2 3:=⟨_,_,_,runUnderlying33,rfl,sizeOf3,rfl⟩
instance:TF prog 35 0 0:=⟨_,_,_,runUnderlying35,rfl,sizeOf25,rfl⟩
instance:TF prog 35 1 10:=⟨_,_,_,runUnderlying35,rfl,sizeOf26,rfl⟩
instance:TF prog 35 2 11:=⟨_,_,_,runUnderlying35,rfl,sizeOf27,rfl⟩
instance:TF prog 35 3 12:=⟨_,_,_,runUnderlying35,rfl,sizeOf31,rfl⟩
instance:TF prog 35 4 14:=⟨_,_,_,runUnderlying35,rfl,sizeOf33,rfl⟩
instance:TF prog 37 0 0:=⟨_,_,_,runUnderlying37,rfl,sizeOf3,rfl⟩
instance:TF prog 37 1 1:=⟨_,_,_,runUnderlying37,rfl,sizeOf27,rfl⟩
instance:TF prog 37 2 2:=⟨_,_,_,runUnderlying37,rfl,sizeOf27,rfl⟩
instance:TF prog 37 3 3:=⟨_,_,_,runUnderlying37,rfl,sizeOf27,rfl⟩
instance:TU prog 47 (.slice 128):=⟨runUnderlying47⟩
instance:TF prog 49 0 0:=⟨_,_,_,runUnderlying49,rfl,sizeOf3,rfl⟩
instance:TF prog 49 1 1:=⟨_,_,_,runUnderlying49,rfl,sizeOf3,rfl⟩
instance:TF prog 51 0 0:=⟨_,_,_,runUnderlying51,rfl,sizeOf47,rfl⟩
instance:TF prog 51 1 1:=⟨_,_,_,runUnderlying51,rfl,sizeOf49,rfl⟩
instance:TF prog 51 2 3:=⟨_,_,_,runUnderlying51,rfl,sizeOf3,rfl⟩
instance:TF prog 51 3 4:=⟨_,_,_,runUnderlying51,rfl,sizeOf3,rfl⟩
instance:TF prog 51 4 5:=⟨_,_,_,runUnderlying51,rfl,sizeOf3,rfl⟩
instance:TU prog 52 (.slice 200):=⟨runUnderlying52⟩
instance:TU prog 53 (.slice 37):=⟨runUnderlying53⟩
instance:TU prog 54 (.slice 76):=⟨runUnderlying54⟩
instance:TU prog 55 (.slice 196):=⟨runUnderlying55⟩
instance:TU prog 56 (.slice 73):=⟨runUnderlying56⟩
instance:TF prog 58 0 0:=⟨_,_,_,runUnderlying58,rfl,sizeOf54,rfl⟩
instance:TF prog 58 1 1:=⟨_,_,_,runUnderlying58,rfl,sizeOf55,rfl⟩
instance:TF prog 58 2 2:=⟨_,_,_,runUnderlying58,rfl,sizeOf47,rfl⟩
instance:TF prog 58 3 3:=⟨_,_,_,runUnderlying58,rfl,sizeOf56,rfl⟩
instance:TF prog 60 0 0:=⟨_,_,_,runUnderlying60,rfl,sizeOf51,rfl⟩
instance:TF prog 60 1 6:=⟨_,_,_,runUnderlying60,rfl,sizeOf3,rfl⟩
instance:TF prog 60 2 7:=⟨_,_,_,runUnderlying60,rfl,sizeOf54,rfl⟩
instance:TF prog 60 3 8:=⟨_,_,_,runUnderlying60,rfl,sizeOf55,rfl⟩
instance:TU prog 67 (.slice 28):=⟨runUnderlying67⟩
instance:TF prog 73 0 0:=⟨_,_,_,runUnderlying73,rfl,sizeOf3,rfl⟩
instance:TF prog 73 1 1:=⟨_,_,_,runUnderlying73,rfl,sizeOf3,rfl⟩
instance:TU prog 74 (.slice 98):=⟨runUnderlying74⟩
instance:TF prog 76 0 0:=⟨_,_,_,runUnderlying76,rfl,sizeOf73,rfl⟩
instance:TF prog 76 1 2:=⟨_,_,_,runUnderlying76,rfl,sizeOf3,rfl⟩
instance:TF prog 76 2 3:=⟨_,_,_,runUnderlying76,rfl,sizeOf3,rfl⟩
instance:TF prog 76 3 4:=⟨_,_,_,runUnderlying76,rfl,sizeOf35,rfl⟩
instance:TF prog 76 4 22:=⟨_,_,_,runUnderlying76,rfl,sizeOf74,rfl⟩
instance:TF prog 76 5 23:=⟨_,_,_,runUnderlying76,rfl,sizeOf56,rfl⟩
instance:TU prog 89 (.slice 92):=⟨runUnderlying89⟩
instance:TU prog 92 (.slice 5):=⟨runUnderlying92⟩
instance:TF prog 98 0 0:=⟨_,_,_,runUnderlying98,rfl,sizeOf3,rfl⟩
instance:TF prog 98 1 1:=⟨_,_,_,runUnderlying98,rfl,sizeOf23,rfl⟩
instance:TF prog 102 0 0:=⟨_,_,_,runUnderlying102,rfl,sizeOf3,rfl⟩
instance:TF prog 102 1 1:=⟨_,_,_,runUnderlying102,rfl,sizeOf3,rfl⟩
instance:TF prog 102 2 2:=⟨_,_,_,runUnderlying102,rfl,sizeOf3,rfl⟩
instance:TF prog 104 0 0:=⟨_,_,_,runUnderlying104,rfl,sizeOf67,rfl⟩
instance:TF prog 108 0 0:=⟨_,_,_,runUnderlying108,rfl,sizeOf3,rfl⟩
instance:TF prog 108 1 1:=⟨_,_,_,runUnderlying108,rfl,sizeOf23,rfl⟩
instance:TF prog 113 0 0:=⟨_,_,_,runUnderlying113,rfl,sizeOf33,rfl⟩
instance:TU prog 126 (.slice 198):=⟨runUnderlying126⟩
instance:TF prog 128 0 0:=⟨_,_,_,runUnderlying128,rfl,sizeOf3,rfl⟩
instance:TF prog 128 1 1:=⟨_,_,_,runUnderlying128,rfl,sizeOf3,rfl⟩
instance:TF prog 128 2 2:=⟨_,_,_,runUnderlying128,rfl,sizeOf3,rfl⟩
instance:TF prog 128 3 3:=⟨_,_,_,runUnderlying128,rfl,sizeOf126,rfl⟩
instance:TU prog 131 (.slice 231):=⟨runUnderlying131⟩
instance:TU prog 157 (.slice 160):=⟨runUnderlying157⟩
instance:TF prog 172 0 0:=⟨_,_,_,runUnderlying172,rfl,sizeOf3,rfl⟩
instance:TF prog 172 1 1:=⟨_,_,_,runUnderlying172,rfl,sizeOf3,rfl⟩
instance:TF prog 174 0 0:=⟨_,_,_,runUnderlying174,rfl,sizeOf28,rfl⟩
instance:TF prog 174 1 1:=⟨_,_,_,runUnderlying174,rfl,sizeOf28,rfl⟩
instance:TF prog 179 0 0:=⟨_,_,_,runUnderlying179,rfl,sizeOf25,rfl⟩
instance:TU prog 182 (.slice 186):=⟨runUnderlying182⟩
instance:TF prog 184 0 0:=⟨_,_,_,runUnderlying184,rfl,sizeOf28,rfl⟩
instance:TF prog 186 0 0:=⟨_,_,_,runUnderlying186,rfl,sizeOf184,rfl⟩
instance:TF prog 186 1 1:=⟨_,_,_,runUnderlying186,rfl,sizeOf4,rfl⟩
instance:TU prog 187 (.slice 184):=⟨runUnderlying187⟩
instance:TF prog 196 0 0:=⟨_,_,_,runUnderlying196,rfl,sizeOf3,rfl⟩
instance:TF prog 196 1 1:=⟨_,_,_,runUnderlying196,rfl,sizeOf3,rfl⟩
instance:TF prog 196 2 2:=⟨_,_,_,runUnderlying196,rfl,sizeOf3,rfl⟩
instance:TF prog 196 3 3:=⟨_,_,_,runUnderlying196,rfl,sizeOf23,rfl⟩
instance:TF prog 198 0 0:=⟨_,_,_,runUnderlying198,rfl,sizeOf3,rfl⟩
instance:TF prog 198 1 1:=⟨_,_,_,runUnderlying198,rfl,sizeOf23,rfl⟩
instance:TF prog 200 0 0:=⟨_,_,_,runUnderlying200,rfl,sizeOf3,rfl⟩
instance:TF prog 200 1 1:=⟨_,_,_,runUnderlying200,rfl,sizeOf3,rfl⟩
instance:TF prog 200 2 2:=⟨_,_,_,runUnderlying200,rfl,sizeOf3,rfl⟩
instance:TF prog 200 3 3:=⟨_,_,_,runUnderlying200,rfl,sizeOf3,rfl⟩
instance:TF prog 200 4 4:=⟨_,_,_,runUnderlying200,rfl,sizeOf3,rfl⟩
instance:TF prog 200 5 5:=⟨_,_,_,runUnderlying200,rfl,sizeOf3,rfl⟩
instance:TF prog 200 6 6:=⟨_,_,_,runUnderlying200,rfl,sizeOf3,rfl⟩
instance:TF prog 200 7 7:=⟨_,_,_,runUnderlying200,rfl,sizeOf35,rfl⟩
instance:TF prog 200 8 25:=⟨_,_,_,runUnderlying200,rfl,sizeOf98,rfl⟩
instance:TF prog 200 9 28:=⟨_,_,_,runUnderlying200,rfl,sizeOf196,rfl⟩
instance:TF prog 200 10 33:=⟨_,_,_,runUnderlying200,rfl,sizeOf198,rfl⟩
instance:TF prog 200 11 36:=⟨_,_,_,runUnderlying200,rfl,sizeOf73,rfl⟩
instance:TF prog 218 0 0:=⟨_,_,_,runUnderlying218,rfl,sizeOf35,rfl⟩
instance:TF prog 218 1 18:=⟨_,_,_,runUnderlying218,rfl,sizeOf74,rfl⟩
instance:TF prog 218 2 19:=⟨_,_,_,runUnderlying218,rfl,sizeOf55,rfl⟩
instance:TF prog 218 3 20:=⟨_,_,_,runUnderlying218,rfl,sizeOf3,rfl⟩
instance:TF prog 218 4 21:=⟨_,_,_,runUnderlying218,rfl,sizeOf67,rfl⟩
instance:TF prog 218 5 22:=⟨_,_,_,runUnderlying218,rfl,sizeOf28,rfl⟩
instance:TF prog 218 8 25:=⟨_,_,_,runUnderlying218,rfl,sizeOf27,rfl⟩
instance:TU prog 225 (.slice 172):=⟨runUnderlying225⟩
instance:TF prog 231 0 0:=⟨_,_,_,runUnderlying231,rfl,sizeOf3,rfl⟩
instance:TF prog 231 1 1:=⟨_,_,_,runUnderlying231,rfl,sizeOf3,rfl⟩
instance:TF prog 231 2 2:=⟨_,_,_,runUnderlying231,rfl,sizeOf3,rfl⟩
instance:TU prog 278 (.slice 52):=⟨runUnderlying278⟩
instance:TF prog 289 0 0:=⟨_,_,_,runUnderlying289,rfl,sizeOf280,rfl⟩
instance:TF prog 289 1 1:=⟨_,_,_,runUnderlying289,rfl,sizeOf280,rfl⟩
instance:TF prog 289 2 2:=⟨_,_,_,runUnderlying289,rfl,sizeOf282,rfl⟩
instance:TF prog 289 3 3:=⟨_,_,_,runUnderlying289,rfl,sizeOf283,rfl⟩
instance:TF prog 289 4 4:=⟨_,_,_,runUnderlying289,rfl,sizeOf284,rfl⟩
instance:TF prog 289 5 5:=⟨_,_,_,runUnderlying289,rfl,sizeOf285,rfl⟩
instance:TF prog 289 6 6:=⟨_,_,_,runUnderlying289,rfl,sizeOf286,rfl⟩
instance:TF prog 289 7 7:=⟨_,_,_,runUnderlying289,rfl,sizeOf287,rfl⟩
instance:TF prog 289 8 8:=⟨_,_,_,runUnderlying289,rfl,sizeOf58,rfl⟩
instance:TF prog 296 0 0:=⟨_,_,_,runUnderlying296,rfl,sizeOf294,rfl⟩
instance:TF prog 296 1 1:=⟨_,_,_,runUnderlying296,rfl,sizeOf3,rfl⟩
instance:TF prog 296 2 2:=⟨_,_,_,runUnderlying296,rfl,sizeOf3,rfl⟩
instance:TF prog 323 0 0:=⟨_,_,_,runUnderlying323,rfl,sizeOf321,rfl⟩
instance:TF prog 323 1 1024:=⟨_,_,_,runUnderlying323,rfl,sizeOf49,rfl⟩
instance:TF prog 323 2 1026:=⟨_,_,_,runUnderlying323,rfl,sizeOf47,rfl⟩
instance:TF prog 448 0 0:=⟨_,_,_,runUnderlying448,rfl,sizeOf296,rfl⟩
instance:TF prog 448 1 3:=⟨_,_,_,runUnderlying448,rfl,sizeOf35,rfl⟩
instance:TF prog 450 0 0:=⟨_,_,_,runUnderlying450,rfl,sizeOf73,rfl⟩
instance:TF prog 450 1 2:=⟨_,_,_,runUnderlying450,rfl,sizeOf98,rfl⟩
instance:TF prog 452 0 0:=⟨_,_,_,runUnderlying452,rfl,sizeOf294,rfl⟩
instance:TF prog 452 1 1:=⟨_,_,_,runUnderlying452,rfl,sizeOf196,rfl⟩
instance:TF prog 454 0 0:=⟨_,_,_,runUnderlying454,rfl,sizeOf3,rfl⟩
instance:TF prog 454 1 1:=⟨_,_,_,runUnderlying454,rfl,sizeOf198,rfl⟩
instance:TF prog 456 0 0:=⟨_,_,_,runUnderlying456,rfl,sizeOf73,rfl⟩
instance:TS prog 3 1:=⟨sizeOf3⟩
instance:TS prog 4 1:=⟨sizeOf4⟩
instance:TS prog 5 1:=⟨sizeOf5⟩
instance:TS prog 23 2:=⟨sizeOf23⟩
instance:TS prog 25 10:=⟨sizeOf25⟩
instance:TS prog 26 1:=⟨sizeOf26⟩
instance:TS prog 27 1:=⟨sizeOf27⟩
instance:TS prog 28 1:=⟨sizeOf28⟩
instance:TS prog 29 1:=⟨sizeOf29⟩
instance:TS prog 31 2:=⟨sizeOf31⟩
instance:TS prog 33 4:=⟨sizeOf33⟩
instance:TS prog 35 18:=⟨sizeOf35⟩
instance:TS prog 37 4:=⟨sizeOf37⟩
instance:TS prog 47 1:=⟨sizeOf47⟩
instance:TS prog 49 2:=⟨sizeOf49⟩
instance:TS prog 51 6:=⟨sizeOf51⟩
instance:TS prog 52 1:=⟨sizeOf52⟩
instance:TS prog 54 1:=⟨sizeOf54⟩
instance:TS prog 55 1:=⟨sizeOf55⟩
instance:TS prog 56 1:=⟨sizeOf56⟩
instance:TS prog 58 4:=⟨sizeOf58⟩
instance:TS prog 60 9:=⟨sizeOf60⟩
instance:TS prog 67 1:=⟨sizeOf67⟩
instance:TS prog 73 2:=⟨sizeOf73⟩
instance:TS prog 74 1:=⟨sizeOf74⟩
instance:TS prog 76 24:=⟨sizeOf76⟩
instance:TS prog 98 3:=⟨sizeOf98⟩
instance:TS prog 102 3:=⟨sizeOf102⟩
instance:TS prog 104 1:=⟨sizeOf104⟩
instance:TS prog 108 3:=⟨sizeOf108⟩
instance:TS prog 113 4:=⟨sizeOf113⟩
instance:TS prog 126 1:=⟨sizeOf126⟩
instance:TS prog 128 4:=⟨sizeOf128⟩
instance:TS prog 157 1:=⟨sizeOf157⟩
instance:TS prog 160 64:=⟨sizeOf160⟩
instance:TS prog 172 2:=⟨sizeOf172⟩
instance:TS prog 174 2:=⟨sizeOf174⟩
instance:TS prog 179 10:=⟨sizeOf179⟩
instance:TS prog 184 1:=⟨sizeOf184⟩
instance:TS prog 186 2:=⟨sizeOf186⟩
instance:TS prog 187 1:=⟨sizeOf187⟩
instance:TS prog 196 5:=⟨sizeOf196⟩
instance:TS prog 198 3:=⟨sizeOf198⟩
instance:TS prog 200 38:=⟨sizeOf200⟩
instance:TS prog 280 1:=⟨sizeOf280⟩
instance:TS prog 282 1:=⟨sizeOf282⟩
instance:TS prog 283 1:=⟨sizeOf283⟩
instance:TS prog 284 1:=⟨sizeOf284⟩
instance:TS prog 285 1:=⟨sizeOf285⟩
instance:TS prog 286 1:=⟨sizeOf286⟩
instance:TS prog 287 1:=⟨sizeOf287⟩
instance:TS prog 289 12:=⟨sizeOf289⟩
instance:TS prog 294 1:=⟨sizeOf294⟩
instance:TS prog 296 3:=⟨sizeOf296⟩
instance:TS prog 319 32:=⟨sizeOf319⟩
instance:TS prog 321 1024:=⟨sizeOf321⟩
instance:TS prog 439 1:=⟨sizeOf439⟩
instance:TA prog 3 false:=⟨isAgg3⟩
instance:TA prog 4 false:=⟨isAgg4⟩
instance:TA prog 23 true:=⟨isAgg23⟩
instance:TA prog 25 true:=⟨isAgg25⟩
instance:TA prog 26 false:=⟨isAgg26⟩
instance:TA prog 27 false:=⟨isAgg27⟩
instance:TA prog 28 false:=⟨isAgg28⟩
instance:TA prog 29 false:=⟨isAgg29⟩
instance:TA prog 31 true:=⟨isAgg31⟩
instance:TA prog 33 true:=⟨isAgg33⟩
instance:TA prog 35 true:=⟨isAgg35⟩
instance:TA prog 37 true:=⟨isAgg37⟩
instance:TA prog 47 false:=⟨isAgg47⟩
instance:TA prog 49 true:=⟨isAgg49⟩
instance:TA prog 51 true:=⟨isAgg51⟩
instance:TA prog 52 false:=⟨isAgg52⟩
instance:TA prog 54 false:=⟨isAgg54⟩
instance:TA prog 55 false:=⟨isAgg55⟩
instance:TA prog 56 false:=⟨isAgg56⟩
instance:TA prog 58 true:=⟨isAgg58⟩
instance:TA prog 60 true:=⟨isAgg60⟩
instance:TA prog 67 false:=⟨isAgg67⟩
instance:TA prog 73 true:=⟨isAgg73⟩
instance:TA prog 74 false:=⟨isAgg74⟩
instance:TA prog 76 true:=⟨isAgg76⟩
instance:TA prog 92 false:=⟨isAgg92⟩
instance:TA prog 98 true:=⟨isAgg98⟩
instance:TA prog 102 true:=⟨isAgg102⟩
instance:TA prog 104 true:=⟨isAgg104⟩
instance:TA prog 108 true:=⟨isAgg108⟩
instance:TA prog 113 true:=⟨isAgg113⟩
instance:TA prog 122 false:=⟨isAgg122⟩
instance:TA prog 126 false:=⟨isAgg126⟩
instance:TA prog 128 true:=⟨isAgg128⟩
instance:TA prog 157 false:=⟨isAgg157⟩
instance:TA prog 160 true:=⟨isAgg160⟩
instance:TA prog 172 true:=⟨isAgg172⟩
instance:TA prog 174 true:=⟨isAgg174⟩
instance:TA prog 179 true:=⟨isAgg179⟩
instance:TA prog 186 true:=⟨isAgg186⟩
instance:TA prog 187 false:=⟨isAgg187⟩
instance:TA prog 196 true:=⟨isAgg196⟩
instance:TA prog 198 true:=⟨isAgg198⟩
instance:TA prog 200 true:=⟨isAgg200⟩
instance:TA prog 228 false:=⟨isAgg228⟩
instance:TA prog 280 false:=⟨isAgg280⟩
instance:TA prog 282 false:=⟨isAgg282⟩
instance:TA prog 283 false:=⟨isAgg283⟩
instance:TA prog 284 false:=⟨isAgg284⟩
instance:TA prog 285 false:=⟨isAgg285⟩
instance:TA prog 286 false:=⟨isAgg286⟩
instance:TA prog 287 false:=⟨isAgg287⟩
instance:TA prog 294 false:=⟨isAgg294⟩
instance:TA prog 296 true:=⟨isAgg296⟩
instance:TA prog 297 false:=⟨isAgg297⟩
instance:TA prog 439 false:=⟨isAgg439⟩
instance:TU prog 77 (.slice 149):=⟨runUnderlying77⟩
instance:TF prog 79 0 0:=⟨_,_,_,runUnderlying79,rfl,sizeOf77,rfl⟩
instance:TU prog 82 (.slice 67):=⟨runUnderlying82⟩
instance:TF prog 84 0 0:=⟨_,_,_,runUnderlying84,rfl,sizeOf82,rfl⟩
instance:TU prog 149 (.slice 152):=⟨runUnderlying149⟩
instance:TU prog 150 (.slice 155):=⟨runUnderlying150⟩
instance:TF prog 152 0 0:=⟨_,_,_,runUnderlying152,rfl,sizeOf28,rfl⟩
instance:TF prog 152 1 1:=⟨_,_,_,runUnderlying152,rfl,sizeOf150,rfl⟩
instance:TF prog 155 0 0:=⟨_,_,_,runUnderlying155,rfl,sizeOf3,rfl⟩
instance:TF prog 155 1 1:=⟨_,_,_,runUnderlying155,rfl,sizeOf23,rfl⟩
instance:TU prog 216 (.slice 246):=⟨runUnderlying216⟩
instance:TF prog 218 6 23:=⟨_,_,_,runUnderlying218,rfl,sizeOf216,rfl⟩
instance:TF prog 218 7 24:=⟨_,_,_,runUnderlying218,rfl,sizeOf215,rfl⟩
instance:TF prog 246 0 0:=⟨_,_,_,runUnderlying246,rfl,sizeOf3,rfl⟩
instance:TF prog 246 1 1:=⟨_,_,_,runUnderlying246,rfl,sizeOf3,rfl⟩
instance:TF prog 246 2 2:=⟨_,_,_,runUnderlying246,rfl,sizeOf3,rfl⟩
instance:TF prog 255 0 0:=⟨_,_,_,runUnderlying255,rfl,sizeOf79,rfl⟩
instance:TF prog 349 0 0:=⟨_,_,_,runUnderlying349,rfl,sizeOf3,rfl⟩
instance:TF prog 349 1 1:=⟨_,_,_,runUnderlying349,rfl,sizeOf3,rfl⟩
instance:TF prog 433 0 0:=⟨_,_,_,runUnderlying433,rfl,sizeOf79,rfl⟩
instance:TS prog 39 1:=⟨sizeOf39⟩
instance:TS prog 77 1:=⟨sizeOf77⟩
instance:TS prog 79 1:=⟨sizeOf79⟩
instance:TS prog 82 1:=⟨sizeOf82⟩
instance:TS prog 84 1:=⟨sizeOf84⟩
instance:TS prog 149 1:=⟨sizeOf149⟩
instance:TS prog 150 1:=⟨sizeOf150⟩
instance:TS prog 152 2:=⟨sizeOf152⟩
instance:TS prog 155 3:=⟨sizeOf155⟩
instance:TS prog 215 1:=⟨sizeOf215⟩
instance:TS prog 216 1:=⟨sizeOf216⟩
instance:TS prog 246 3:=⟨sizeOf246⟩
instance:TS prog 337 1:=⟨sizeOf337⟩
instance:TS prog 349 2:=⟨sizeOf349⟩
instance:TA prog 39 false:=⟨isAgg39⟩
instance:TA prog 77 false:=⟨isAgg77⟩
instance:TA prog 79 true:=⟨isAgg79⟩
instance:TA prog 82 false:=⟨isAgg82⟩
instance:TA prog 84 true:=⟨isAgg84⟩
instance:TA prog 149 false:=⟨isAgg149⟩
instance:TA prog 150 false:=⟨isAgg150⟩
instance:TA prog 152 true:=⟨isAgg152⟩
instance:TA prog 155 true:=⟨isAgg155⟩
instance:TA prog 215 false:=⟨isAgg215⟩
instance:TA prog 216 false:=⟨isAgg216⟩
instance:TA prog 239 false:=⟨isAgg239⟩
instance:TA prog 246 true:=⟨isAgg246⟩
instance:TA prog 337 false:=⟨isAgg337⟩
instance:TA prog 490 false:=⟨isAgg490⟩
instance:Rng Span:=⟨fun x=>Rng.ok x.Lo∧Rng.ok x.Hi⟩
instance:Rng Height:=⟨fun x=>Rng.ok x.Week∧Rng.ok x.Metres⟩
instance:Rng Station:=⟨fun x=>Rng.ok x.ID∧Rng.ok x.X∧Rng.ok x.Y∧Rng.ok x.Heights⟩
instance:Rng Wind:=⟨fun x=>Rng.ok x.Fixed∧Rng.ok x.Each⟩
instance:Rng BaseT:=⟨fun x=>Rng.ok x.Stations∧Rng.ok x.Wind∧Rng.ok x.Term∧Rng.ok x.Ticks∧Rng.ok x.Clerks⟩
instance:Rng Paper:=⟨fun x=>Rng.ok x.Pitch∧Rng.ok x.Height∧Rng.ok x.Radius∧Rng.ok x.Low∧Rng.ok x.High∧Rng.ok x.Columns∧Rng.ok x.Along∧Rng.ok x.Across⟩
instance:Rng Point:=⟨fun x=>Rng.ok x.X∧Rng.ok x.Y∧Rng.ok x.Half⟩
instance:Rng Stp:=⟨fun x=>Rng.ok x.Column∧Rng.ok x.Ticks⟩
instance:Rng Drum:=⟨fun x=>Rng.ok x.Rates∧Rng.ok x.Stops⟩
instance:Rng Pen:=⟨fun x=>Rng.ok x.Band∧Rng.ok x.Zero∧Rng.ok x.Rate⟩
instance:Rng Sheet:=⟨fun x=>Rng.ok x.Paper∧Rng.ok x.Trace∧Rng.ok x.Blots∧Rng.ok x.Drum∧Rng.ok x.Pen⟩
instance:Rng Mark:=⟨fun x=>Rng.ok x.Column∧Rng.ok x.Ticks⟩
instance:Rng ReadT:=⟨fun x=>Rng.ok x.Station∧Rng.ok x.Week∧Rng.ok x.Tick∧Rng.ok x.Levels⟩
instance:Rng NName:=⟨fun x=>Rng.ok x.Clerk∧Rng.ok x.Num⟩
instance:Rng NoteT:=⟨fun x=>Rng.ok x.Clerk∧Rng.ok x.Num∧Rng.ok x.Clock∧Rng.ok x.Day∧Rng.ok x.Kind∧Rng.ok x.Station∧Rng.ok x.Week∧Rng.ok x.Sheet∧Rng.ok x.Mark∧Rng.ok x.Read∧Rng.ok x.Height∧Rng.ok x.Ref⟩
instance:Rng Course:=⟨fun x=>Rng.ok x.Zero∧Rng.ok x.Ticks∧Rng.ok x.Shown∧Rng.ok x.Levels⟩
theorem T7:Br prog 3 Int:=Br.int underlying3 (by kernel_rfl)
theorem IS:Br prog 23 Span:=.struct underlying23 (by kernel_rfl) fun W cs g ez=>by
 obtain⟨a,b,c⟩:=g 0 _ _ rfl rfl T7
 obtain⟨d,f,k⟩:=g 1 _ _ rfl rfl T7
 exact⟨⟨a,d⟩,(ct b (ct f ez)),⟨c,k⟩⟩
theorem B0f:Br prog 198 Height:=.struct underlying198 (by kernel_rfl) fun W cs g ez=>by
 obtain⟨a,b,c⟩:=g 0 _ _ rfl rfl T7
 obtain⟨d,f,k⟩:=g 1 _ _ rfl rfl IS
 exact⟨⟨a,d⟩,(ct b (ct f ez)),⟨c,k⟩⟩
theorem B5U:Br prog 126 (List Height):=Br.slice underlying126 (by kernel_rfl) (by rw[show prog.bytesOf 198=24 from by kernel_rfl];decide) B0f
theorem B5O:Br prog 128 Station:=.struct underlying128 (by kernel_rfl) fun W cs g ez=>by
 obtain⟨d,f,k⟩:=g 0 _ _ rfl rfl T7
 obtain⟨l,m,n⟩:=g 1 _ _ rfl rfl T7
 obtain⟨o,p,q⟩:=g 2 _ _ rfl rfl T7
 obtain⟨r,c,s⟩:=g 3 _ _ rfl rfl B5U
 obtain⟨a,c,b⟩:=c
 exact⟨⟨d,l,o,r⟩,⟨a,(ct f (ct m (ct p (ct c ez)))),b⟩,⟨k,n,q,s⟩⟩
theorem B7c:Br prog 47 (List Station):=Br.slice underlying47 (by kernel_rfl) (by rw[show prog.bytesOf 128=48 from by kernel_rfl];decide) B5O
theorem B7B:Br prog 49 Wind:=.struct underlying49 (by kernel_rfl) fun W cs g ez=>by
 obtain⟨a,b,c⟩:=g 0 _ _ rfl rfl T7
 obtain⟨d,f,k⟩:=g 1 _ _ rfl rfl T7
 exact⟨⟨a,d⟩,(ct b (ct f ez)),⟨c,k⟩⟩
theorem B7G:Br prog 51 BaseT:=.struct underlying51 (by kernel_rfl) fun W cs g ez=>by
 obtain⟨d,c,f⟩:=g 0 _ _ rfl rfl B7c
 obtain⟨a,c,b⟩:=c
 obtain⟨k,l,m⟩:=g 1 _ _ rfl rfl B7B
 obtain⟨n,o,p⟩:=g 2 _ _ rfl rfl T7
 obtain⟨q,r,s⟩:=g 3 _ _ rfl rfl T7
 obtain⟨t,u,v⟩:=g 4 _ _ rfl rfl T7
 exact⟨⟨d,k,n,q,t⟩,⟨a,(ct c (ct l (ct o (ct r (ct u ez))))),b⟩,⟨f,m,p,s,v⟩⟩
theorem B7g:Br prog 25 Paper:=.struct underlying25 (by kernel_rfl) fun W cs g ez=>by
 obtain⟨a,b,c⟩:=g 0 _ _ rfl rfl T7
 obtain⟨d,f,k⟩:=g 1 _ _ rfl rfl T7
 obtain⟨l,m,n⟩:=g 2 _ _ rfl rfl T7
 obtain⟨o,p,q⟩:=g 3 _ _ rfl rfl T7
 obtain⟨r,s,t⟩:=g 4 _ _ rfl rfl T7
 obtain⟨u,v,w⟩:=g 5 _ _ rfl rfl T7
 obtain⟨x,y,z⟩:=g 6 _ _ rfl rfl IS
 obtain⟨A,B,C⟩:=g 7 _ _ rfl rfl IS
 exact⟨⟨a,d,l,o,r,u,x,A⟩,(ct b (ct f (ct m (ct p (ct s (ct v (ct y (ct B ez)))))))),⟨c,k,n,q,t,w,z,C⟩⟩
theorem B6D:Br prog 102 Point:=.struct underlying102 (by kernel_rfl) fun W cs g ez=>by
 obtain⟨a,b,c⟩:=g 0 _ _ rfl rfl T7
 obtain⟨d,f,k⟩:=g 1 _ _ rfl rfl T7
 obtain⟨l,m,n⟩:=g 2 _ _ rfl rfl T7
 exact⟨⟨a,d,l⟩,(ct b (ct f (ct m ez))),⟨c,k,n⟩⟩
theorem B7f:Br prog 26 (List Point):=Br.slice underlying26 (by kernel_rfl) (by rw[show prog.bytesOf 102=24 from by kernel_rfl];decide) B6D
theorem B7w:Br prog 27 (List Int):=Br.slice underlying27 (by kernel_rfl) (by rw[show prog.bytesOf 3=8 from by kernel_rfl];decide) T7
theorem B7k:Br prog 28 (List Span):=Br.slice underlying28 (by kernel_rfl) (by rw[show prog.bytesOf 23=16 from by kernel_rfl];decide) IS
theorem B5B:Br prog 108 Stp:=.struct underlying108 (by kernel_rfl) fun W cs g ez=>by
 obtain⟨a,b,c⟩:=g 0 _ _ rfl rfl T7
 obtain⟨d,f,k⟩:=g 1 _ _ rfl rfl IS
 exact⟨⟨a,d⟩,(ct b (ct f ez)),⟨c,k⟩⟩
theorem B7s:Br prog 29 (List Stp):=Br.slice underlying29 (by kernel_rfl) (by rw[show prog.bytesOf 108=24 from by kernel_rfl];decide) B5B
theorem B6W:Br prog 31 Drum:=.struct underlying31 (by kernel_rfl) fun W cs g ez=>by
 obtain⟨l,f,m⟩:=g 0 _ _ rfl rfl B7k
 obtain⟨a,f,b⟩:=f
 obtain⟨n,k,o⟩:=g 1 _ _ rfl rfl B7s
 obtain⟨c,k,d⟩:=k
 exact⟨⟨l,n⟩,⟨a,c,(ct f (ct k ez)),b,d⟩,⟨m,o⟩⟩
theorem B7b:Br prog 33 Pen:=.struct underlying33 (by kernel_rfl) fun W cs g ez=>by
 obtain⟨a,b,c⟩:=g 0 _ _ rfl rfl T7
 obtain⟨d,f,k⟩:=g 1 _ _ rfl rfl IS
 obtain⟨l,m,n⟩:=g 2 _ _ rfl rfl T7
 exact⟨⟨a,d,l⟩,(ct b (ct f (ct m ez))),⟨c,k,n⟩⟩
theorem B7A:Br prog 35 Sheet:=.struct underlying35 (by kernel_rfl) fun W cs g ez=>by
 obtain⟨q,r,s⟩:=g 0 _ _ rfl rfl B7g
 obtain⟨t,n,u⟩:=g 1 _ _ rfl rfl B7f
 obtain⟨a,n,b⟩:=n
 obtain⟨v,o,w⟩:=g 2 _ _ rfl rfl B7w
 obtain⟨c,o,d⟩:=o
 obtain⟨x,p,y⟩:=g 3 _ _ rfl rfl B6W
 obtain⟨f,k,p,l,m⟩:=p
 obtain⟨z,A,B⟩:=g 4 _ _ rfl rfl B7b
 exact⟨⟨q,t,v,x,z⟩,⟨a,c,f,k,(ct r (ct n (ct o (ct p (ct A ez))))),b,d,l,m⟩,⟨s,u,w,y,B⟩⟩
theorem B6U:Br prog 98 Mark:=.struct underlying98 (by kernel_rfl) fun W cs g ez=>by
 obtain⟨a,b,c⟩:=g 0 _ _ rfl rfl T7
 obtain⟨d,f,k⟩:=g 1 _ _ rfl rfl IS
 exact⟨⟨a,d⟩,(ct b (ct f ez)),⟨c,k⟩⟩
theorem B5E:Br prog 196 ReadT:=.struct underlying196 (by kernel_rfl) fun W cs g ez=>by
 obtain⟨a,b,c⟩:=g 0 _ _ rfl rfl T7
 obtain⟨d,f,k⟩:=g 1 _ _ rfl rfl T7
 obtain⟨l,m,n⟩:=g 2 _ _ rfl rfl T7
 obtain⟨o,p,q⟩:=g 3 _ _ rfl rfl IS
 exact⟨⟨a,d,l,o⟩,(ct b (ct f (ct m (ct p ez)))),⟨c,k,n,q⟩⟩
theorem B7h:Br prog 73 NName:=.struct underlying73 (by kernel_rfl) fun W cs g ez=>by
 obtain⟨a,b,c⟩:=g 0 _ _ rfl rfl T7
 obtain⟨d,f,k⟩:=g 1 _ _ rfl rfl T7
 exact⟨⟨a,d⟩,(ct b (ct f ez)),⟨c,k⟩⟩
theorem B5P:Br prog 200 NoteT:=.struct underlying200 (by kernel_rfl) fun W cs g ez=>by
 obtain⟨u,v,w⟩:=g 0 _ _ rfl rfl T7
 obtain⟨x,y,z⟩:=g 1 _ _ rfl rfl T7
 obtain⟨A,B,C⟩:=g 2 _ _ rfl rfl T7
 obtain⟨D,E,F⟩:=g 3 _ _ rfl rfl T7
 obtain⟨G,H,I⟩:=g 4 _ _ rfl rfl T7
 obtain⟨J,K,L⟩:=g 5 _ _ rfl rfl T7
 obtain⟨M,N,P⟩:=g 6 _ _ rfl rfl T7
 obtain⟨Q,n,R⟩:=g 7 _ _ rfl rfl B7A
 obtain⟨a,b,c,d,n,f,k,l,m⟩:=n
 obtain⟨S,T,V⟩:=g 8 _ _ rfl rfl B6U
 obtain⟨X,Y,k9⟩:=g 9 _ _ rfl rfl B5E
 obtain⟨o,p,q⟩:=g 10 _ _ rfl rfl B0f
 obtain⟨r,s,t⟩:=g 11 _ _ rfl rfl B7h
 exact⟨⟨u,x,A,D,G,J,M,Q,S,X,o,r⟩,⟨a,b,c,d,(ct v (ct y (ct B (ct E (ct H (ct K (ct N (ct n (ct T (ct Y (ct p (ct s ez)))))))))))),f,k,l,m⟩,⟨w,z,C,F,I,L,P,R,V,k9,q,t⟩⟩
theorem B7n:Br prog 52 (List NoteT):=Br.slice underlying52 (by kernel_rfl) (by rw[show prog.bytesOf 200=368 from by kernel_rfl];decide) B5P
section
variable{m:Mem}{p:Addr}
structure FilingT where
 ref:RawV
 station:Int
 week:Int
 deriving Inhabited
instance:Flat FilingT:=⟨3,by decide,fun x=>[x.ref.v,J x.station,J x.week],fun _=>rfl,fun x v a=>by simp at a;rcases a with rfl|rfl|rfl <;> first|rfl|exact RawV.one _⟩
instance:Enc FilingT:=G8 FilingT
instance:FlatEnc FilingT:=⟨rfl,fun _ _=>rfl⟩
structure SheetCt where
 filing:FilingT
 Sheet:Sheet
 deriving Inhabited
instance:Enc SheetCt where
 sz:=21
 pos:=by decide
 rd m vs x:=∃a b c d:Value,vs=[x.filing.ref.v,J x.filing.station,J x.filing.week,J x.Sheet.Paper.Pitch,J x.Sheet.Paper.Height,J x.Sheet.Paper.Radius,J x.Sheet.Paper.Low,J x.Sheet.Paper.High,J x.Sheet.Paper.Columns,J x.Sheet.Paper.Along.Lo,J x.Sheet.Paper.Along.Hi,J x.Sheet.Paper.Across.Lo,J x.Sheet.Paper.Across.Hi,a,b,c,d,J x.Sheet.Pen.Band,J x.Sheet.Pen.Zero.Lo,J x.Sheet.Pen.Zero.Hi,J x.Sheet.Pen.Rate]∧Sl m a x.Sheet.Trace∧Sl m b x.Sheet.Blots∧Sl m c x.Sheet.Drum.Rates∧Sl m d x.Sheet.Drum.Stops
 len h:=by obtain⟨a,b,c,d,rfl,f,g,k,l⟩:=h;rfl
 mono hm h:=by obtain⟨a,b,c,d,o,f,g,k,l⟩:=h;exact⟨a,b,c,d,o,f.mono hm,g.mono hm,k.mono hm,l.mono hm⟩
 one h:=by
  obtain⟨a,b,c,d,rfl,f,g,k,l⟩:=h
  intro u n
  simp at n
  rcases n with rfl|rfl|rfl|rfl|rfl|rfl|rfl|rfl|rfl|rfl|rfl|rfl|rfl|rfl|rfl|rfl|rfl|rfl|rfl|rfl|rfl <;> first|rfl|exact f.one|exact g.one|exact k.one|exact l.one|exact RawV.one _
theorem RE{x:SheetCt}(h:At m p x):At m (p.add 0) x.filing:=by obtain⟨_,⟨_,_,_,_,rfl,_,_,_,_⟩,c⟩:=h;exact⟨_,rfl,c.cut 0⟩
theorem A0g{x:SheetCt}(h:At m p x):At m (p.add 3) x.Sheet:=by obtain⟨_,⟨_,_,_,_,rfl,a,b,d,f⟩,c⟩:=h;exact⟨_,⟨_,_,_,_,rfl,a,b,d,f⟩,c.cut 3⟩
structure MarkCt where
 ref:NName
 Mark:Mark
 deriving DecidableEq,Inhabited
instance:Flat MarkCt:=⟨5,by decide,fun x=>[J x.ref.Clerk,J x.ref.Num,J x.Mark.Column,J x.Mark.Ticks.Lo,J x.Mark.Ticks.Hi],fun _=>rfl,fun x v a=>by simp at a;rcases a with rfl|rfl|rfl|rfl|rfl <;> rfl⟩
instance:Enc MarkCt:=G8 MarkCt
instance:FlatEnc MarkCt:=⟨rfl,fun _ _=>rfl⟩
theorem A0Z{x:MarkCt}(h:At m p x):At m (p.add 0) x.ref:=h.fl 0 rfl rfl
theorem A0W{x:MarkCt}(h:At m p x):At m (p.add 2) x.Mark:=h.fl 2 rfl rfl
structure ReadCt where
 ref:RawV
 Read:ReadT
 deriving Inhabited
instance:Flat ReadCt:=⟨6,by decide,fun x=>[x.ref.v,J x.Read.Station,J x.Read.Week,J x.Read.Tick,J x.Read.Levels.Lo,J x.Read.Levels.Hi],fun _=>rfl,fun x v a=>by simp at a;rcases a with rfl|rfl|rfl|rfl|rfl|rfl <;> first|rfl|exact RawV.one _⟩
instance:Enc ReadCt:=G8 ReadCt
instance:FlatEnc ReadCt:=⟨rfl,fun _ _=>rfl⟩
structure HeightCt where
 station:Int
 Height:Height
 deriving DecidableEq,Inhabited
instance:Flat HeightCt:=⟨4,by decide,fun x=>[J x.station,J x.Height.Week,J x.Height.Metres.Lo,J x.Height.Metres.Hi],fun _=>rfl,fun x v a=>by simp at a;rcases a with rfl|rfl|rfl|rfl <;> rfl⟩
instance:Enc HeightCt:=G8 HeightCt
instance:FlatEnc HeightCt:=⟨rfl,fun _ _=>rfl⟩
theorem Qk{x:HeightCt}(h:At m p x):At m (p.add 0) x.station:=h.fl 0 rfl rfl
theorem Iy{x:HeightCt}(h:At m p x):At m (p.add 1) x.Height:=h.fl 1 rfl rfl
structure WithCt where
 ref:NName
 deriving DecidableEq,Inhabited
instance:Flat WithCt:=⟨2,by decide,fun x=>[J x.ref.Clerk,J x.ref.Num],fun _=>rfl,fun x v a=>by simp at a;rcases a with rfl|rfl <;> rfl⟩
instance:Enc WithCt:=G8 WithCt
instance:FlatEnc WithCt:=⟨rfl,fun _ _=>rfl⟩
theorem A0N{x:WithCt}(h:At m p x):At m (p.add 0) x.ref:=h.fl 0 rfl rfl
theorem Gj(fs:Array Field)(h:prog.underlying 296=some (.struct fs))(w:World):(fs.mapM fun f=>do pure (f.offset,←sizeOf f.type):Sem _).run prog w= .ok #[(0,1),(1,1),(2,1)] w:=by
 rw[underlying296]at h;cases h;simp[sizeOf3,sizeOf294]
theorem A6V(fs:Array Field)(h:prog.underlying 448=some (.struct fs))(w:World):(fs.mapM fun f=>do pure (f.offset,←sizeOf f.type):Sem _).run prog w= .ok #[(0,3),(3,18)] w:=by
 rw[underlying448]at h;cases h;simp[sizeOf35,sizeOf296]
theorem Ps(fs:Array Field)(h:prog.underlying 450=some (.struct fs))(w:World):(fs.mapM fun f=>do pure (f.offset,←sizeOf f.type):Sem _).run prog w= .ok #[(0,2),(2,3)] w:=by
 rw[underlying450]at h;cases h;simp[sizeOf73,sizeOf98]
theorem PL(fs:Array Field)(h:prog.underlying 452=some (.struct fs))(w:World):(fs.mapM fun f=>do pure (f.offset,←sizeOf f.type):Sem _).run prog w= .ok #[(0,1),(1,5)] w:=by
 rw[underlying452]at h;cases h;simp[sizeOf196,sizeOf294]
theorem A5t(fs:Array Field)(h:prog.underlying 454=some (.struct fs))(w:World):(fs.mapM fun f=>do pure (f.offset,←sizeOf f.type):Sem _).run prog w= .ok #[(0,1),(1,3)] w:=by
 rw[underlying454]at h;cases h;simp[sizeOf3,sizeOf198]
theorem A5Z(fs:Array Field)(h:prog.underlying 456=some (.struct fs))(w:World):(fs.mapM fun f=>do pure (f.offset,←sizeOf f.type):Sem _).run prog w= .ok #[(0,2)] w:=by
 rw[underlying456]at h;cases h;simp[sizeOf73]
end
variable{m:Mem}{p:Addr}
structure StateT where
 column:Int
 ago:Int
 offset:Int
 deriving DecidableEq,Inhabited
instance:Flat StateT:=⟨3,by decide,fun x=>[J x.column,J x.ago,J x.offset],fun _=>rfl,fun x v a=>by simp at a;rcases a with rfl|rfl|rfl <;> rfl⟩
instance:Enc StateT:=G8 StateT
instance:FlatEnc StateT:=⟨rfl,fun _ _=>rfl⟩
theorem I9{x:StateT}(h:At m p x):At m (p.add 0) x.column:=h.fl 0 rfl rfl
theorem Bs{x:StateT}(h:At m p x):At m (p.add 1) x.ago:=h.fl 1 rfl rfl
theorem GC{x:StateT}(h:At m p x):At m (p.add 2) x.offset:=h.fl 2 rfl rfl
structure Chart where
 Sheet:Sheet
 marks:List Mark
 reads:List ReadT
 ticks:Int
 ink:List (List Span)
 gaps:List Span
 L:List StateT
 index:RawV
 zeroes:List Int
 deriving Inhabited
instance:Enc Chart where
 sz:=26
 pos:=by decide
 rd m vs x:=∃a b c d f g k l n o:Value,vs=[J x.Sheet.Paper.Pitch,J x.Sheet.Paper.Height,J x.Sheet.Paper.Radius,J x.Sheet.Paper.Low,J x.Sheet.Paper.High,J x.Sheet.Paper.Columns,J x.Sheet.Paper.Along.Lo,J x.Sheet.Paper.Along.Hi,J x.Sheet.Paper.Across.Lo,J x.Sheet.Paper.Across.Hi,a,b,c,d,J x.Sheet.Pen.Band,J x.Sheet.Pen.Zero.Lo,J x.Sheet.Pen.Zero.Hi,J x.Sheet.Pen.Rate,f,g,J x.ticks,k,l,n,x.index.v,o]∧Sl m a x.Sheet.Trace∧Sl m b x.Sheet.Blots∧Sl m c x.Sheet.Drum.Rates∧Sl m d x.Sheet.Drum.Stops∧Sl m f x.marks∧Sl m g x.reads∧Sl m k x.ink∧Sl m l x.gaps∧Sl m n x.L∧Sl m o x.zeroes
 len h:=by obtain⟨a,b,c,d,f,g,k,l,n,o,rfl,p,q,r,s,t,w,y,z,A,B⟩:=h;rfl
 mono hm h:=by obtain⟨a,b,c,d,f,g,k,l,n,o,D,p,q,r,s,t,w,y,z,A,B⟩:=h;exact⟨a,b,c,d,f,g,k,l,n,o,D,p.mono hm,q.mono hm,r.mono hm,s.mono hm,t.mono hm,w.mono hm,y.mono hm,z.mono hm,A.mono hm,B.mono hm⟩
 one h:=by
  obtain⟨a,b,c,d,f,g,k,l,n,o,rfl,p,q,r,s,t,w,y,z,A,B⟩:=h
  intro u C
  simp at C
  rcases C with rfl|rfl|rfl|rfl|rfl|rfl|rfl|rfl|rfl|rfl|rfl|rfl|rfl|rfl|rfl|rfl|rfl|rfl|rfl|rfl|rfl|rfl|rfl|rfl|rfl|rfl <;> first|rfl|exact p.one|exact q.one|exact r.one|exact s.one|exact t.one|exact w.one|exact y.one|exact z.one|exact A.one|exact B.one|exact RawV.one _
theorem Iu{x:Chart}(h:At m p x):At m (p.add 0) x.Sheet:=by obtain⟨_,⟨_,_,_,_,_,_,_,_,_,_,rfl,a,b,d,f,_,_,_,_,_,_⟩,c⟩:=h;exact⟨_,⟨_,_,_,_,rfl,a,b,d,f⟩,c.cut 0⟩
theorem A4n{x:Chart}(h:At m p x):At m (p.add 18) x.marks:=by obtain⟨_,⟨_,_,_,_,_,_,_,_,_,_,rfl,_,_,_,_,a,_,_,_,_,_⟩,c⟩:=h;exact⟨_,⟨_,rfl,a⟩,c.cut 18⟩
theorem A3g{x:Chart}(h:At m p x):At m (p.add 19) x.reads:=by obtain⟨_,⟨_,_,_,_,_,_,_,_,_,_,rfl,_,_,_,_,_,a,_,_,_,_⟩,c⟩:=h;exact⟨_,⟨_,rfl,a⟩,c.cut 19⟩
theorem Cc{x:Chart}(h:At m p x):At m (p.add 20) x.ticks:=by obtain⟨_,⟨_,_,_,_,_,_,_,_,_,_,rfl,_,_,_,_,_,_,_,_,_,_⟩,c⟩:=h;exact⟨_,rfl,c.cut 20⟩
theorem MV{x:Chart}(h:At m p x):At m (p.add 21) x.ink:=by obtain⟨_,⟨_,_,_,_,_,_,_,_,_,_,rfl,_,_,_,_,_,_,a,_,_,_⟩,c⟩:=h;exact⟨_,⟨_,rfl,a⟩,c.cut 21⟩
theorem V0{x:Chart}(h:At m p x):At m (p.add 22) x.gaps:=by obtain⟨_,⟨_,_,_,_,_,_,_,_,_,_,rfl,_,_,_,_,_,_,_,a,_,_⟩,c⟩:=h;exact⟨_,⟨_,rfl,a⟩,c.cut 22⟩
theorem ME{x:Chart}(h:At m p x):At m (p.add 23) x.L:=by obtain⟨_,⟨_,_,_,_,_,_,_,_,_,_,rfl,_,_,_,_,_,_,_,_,a,_⟩,c⟩:=h;exact⟨_,⟨_,rfl,a⟩,c.cut 23⟩
theorem A3V{x:Chart}(h:At m p x):At m (p.add 24) x.index:=by obtain⟨_,⟨_,_,_,_,_,_,_,_,_,_,rfl,_,_,_,_,_,_,_,_,_,_⟩,c⟩:=h;exact⟨_,rfl,c.cut 24⟩
theorem A2C{x:Chart}(h:At m p x):At m (p.add 25) x.zeroes:=by obtain⟨_,⟨_,_,_,_,_,_,_,_,_,_,rfl,_,_,_,_,_,_,_,_,_,a⟩,c⟩:=h;exact⟨_,⟨_,rfl,a⟩,c.cut 25⟩
theorem A5H(fs:Array Field)(h:prog.underlying 218=some (.struct fs))(w:World):(fs.mapM fun f=>do pure (f.offset,←sizeOf f.type):Sem _).run prog w= .ok #[(0,18),(18,1),(19,1),(20,1),(21,1),(22,1),(23,1),(24,1),(25,1)] w:=by
 rw[underlying218]at h;cases h;simp[sizeOf3,sizeOf27,sizeOf28,sizeOf35,sizeOf55,sizeOf67,sizeOf74,sizeOf215,sizeOf216]
end Go.Proofs.T10
