/- Plain laws of shares. No conditions. -/
import Derived.Test.YtbdhdandljfkfaaGreatDoorL
import Derived.Test.YtbdhdandljfkfaaGreatDoorM
import Derived.Test.YtbdhdandljfkfaaGreatDoorS
import Derived.Test.YtbdhdandljfkfaaGreatDoorV
import Derived.Test.YtbdhdandljfkfaaGreatDoorN
import Derived.Test.YtbdhdandljfkfaaGreatDoorZ
import Derived.Test.YtbdhdandljfkfaaGreatDoorU
import Derived.Test.YtbdhdandljfkfaaGreatDoorT
import Derived.Test.YtbdhdandljfkfaaGreatDoorY
import Derived.Test.YtbdhdandljfkfaaGreatDoorK
import Derived.Test.YtbdhdandljfkfaaGreatDoorG
set_option linter.unusedVariables false
set_option linter.unusedSimpArgs false
set_option linter.unusedSectionVars false
set_option maxRecDepth 100000
section
open Go Go.Proofs Ev
namespace Mx
def MT(k n:Nat):List B:=match k,n with
 |1,1=>[[1]]
 |1,2=>[[1],[1]]
 |2,2=>[[1,0],[0,1]]
 |1,3=>[[1],[1],[1]]
 |2,3=>[[1,0],[0,1],[3,2]]
 |3,3=>[[1,0,0],[0,1,0],[0,0,1]]
 |1,4=>[[1],[1],[1],[1]]
 |2,4=>[[1,0],[0,1],[3,2],[2,3]]
 |3,4=>[[1,0,0],[0,1,0],[0,0,1],[1,1,1]]
 |4,4=>[[1,0,0,0],[0,1,0,0],[0,0,1,0],[0,0,0,1]]
 |1,5=>[[1],[1],[1],[1],[1]]
 |2,5=>[[1,0],[0,1],[3,2],[2,3],[5,4]]
 |3,5=>[[1,0,0],[0,1,0],[0,0,1],[1,1,1],[15,8,6]]
 |4,5=>[[1,0,0,0],[0,1,0,0],[0,0,1,0],[0,0,0,1],[27,28,18,20]]
 |5,5=>[[1,0,0,0,0],[0,1,0,0,0],[0,0,1,0,0],[0,0,0,1,0],[0,0,0,0,1]]
 |1,6=>[[1],[1],[1],[1],[1],[1]]
 |2,6=>[[1,0],[0,1],[3,2],[2,3],[5,4],[4,5]]
 |3,6=>[[1,0,0],[0,1,0],[0,0,1],[1,1,1],[15,8,6],[14,9,6]]
 |4,6=>[[1,0,0,0],[0,1,0,0],[0,0,1,0],[0,0,0,1],[27,28,18,20],[28,27,20,18]]
 |5,6=>[[1,0,0,0,0],[0,1,0,0,0],[0,0,1,0,0],[0,0,0,1,0],[0,0,0,0,1],[7,7,6,6,1]]
 |6,6=>[[1,0,0,0,0,0],[0,1,0,0,0,0],[0,0,1,0,0,0],[0,0,0,1,0,0],[0,0,0,0,1,0],[0,0,0,0,0,1]]
 |1,7=>[[1],[1],[1],[1],[1],[1],[1]]
 |2,7=>[[1,0],[0,1],[3,2],[2,3],[5,4],[4,5],[7,6]]
 |3,7=>[[1,0,0],[0,1,0],[0,0,1],[1,1,1],[15,8,6],[14,9,6],[14,8,7]]
 |4,7=>[[1,0,0,0],[0,1,0,0],[0,0,1,0],[0,0,0,1],[27,28,18,20],[28,27,20,18],[18,20,27,28]]
 |5,7=>[[1,0,0,0,0],[0,1,0,0,0],[0,0,1,0,0],[0,0,0,1,0],[0,0,0,0,1],[7,7,6,6,1],[9,8,9,8,1]]
 |6,7=>[[1,0,0,0,0,0],[0,1,0,0,0,0],[0,0,1,0,0,0],[0,0,0,1,0,0],[0,0,0,0,1,0],[0,0,0,0,0,1],[7,6,5,4,3,2]]
 |_,_=>[]
theorem n83_11:f83 1 1=some (some (1,1,[[1]],()),0):=by
 rw[e83,t83]
 refine bt (a:=false) rfl ?_
 rw[cb_f,bs ((k120 1 1).trans v120_11)]
 refine bt (a:=[[1]]) rfl ?_
 rw[bs ((k121 [[1]]).trans i121_1),bs ((k122 [[1]] [[1]]).trans m122_11)]
theorem n79_11:f79 1 1=some [[1]]:=by
 rw[e79,t79,bs ((k115 1 1).trans v115_11)]
 refine bt (a:=[[1]]) rfl ?_
 rw[bs ((k116 [[1]]).trans i116_1),bs ((k117 [[1]] [[1]]).trans m117_11)]
theorem n83_12:f83 1 2=some (some (1,2,[[1],[1]],()),0):=by
 rw[e83,t83]
 refine bt (a:=false) rfl ?_
 rw[cb_f,bs ((k120 2 1).trans v120_21)]
 refine bt (a:=[[1]]) rfl ?_
 rw[bs ((k121 [[1]]).trans i121_1),bs ((k122 [[1],[1]] [[1]]).trans m122_21)]
theorem n79_12:f79 1 2=some [[1],[1]]:=by
 rw[e79,t79,bs ((k115 2 1).trans v115_21)]
 refine bt (a:=[[1]]) rfl ?_
 rw[bs ((k116 [[1]]).trans i116_1),bs ((k117 [[1],[1]] [[1]]).trans m117_21)]
theorem n83_22:f83 2 2=some (some (2,2,[[1,0],[0,1]],()),0):=by
 rw[e83,t83]
 refine bt (a:=false) rfl ?_
 rw[cb_f,bs ((k120 2 2).trans v120_22)]
 refine bt (a:=[[1,0],[1,1]]) rfl ?_
 rw[bs ((k121 [[1,0],[1,1]]).trans i121_2),bs ((k122 [[1,0],[1,1]] [[1,0],[1,1]]).trans m122_22)]
theorem n79_22:f79 2 2=some [[1,0],[0,1]]:=by
 rw[e79,t79,bs ((k115 2 2).trans v115_22)]
 refine bt (a:=[[1,0],[1,1]]) rfl ?_
 rw[bs ((k116 [[1,0],[1,1]]).trans i116_2),bs ((k117 [[1,0],[1,1]] [[1,0],[1,1]]).trans m117_22)]
theorem n83_13:f83 1 3=some (some (1,3,[[1],[1],[1]],()),0):=by
 rw[e83,t83]
 refine bt (a:=false) rfl ?_
 rw[cb_f,bs ((k120 3 1).trans v120_31)]
 refine bt (a:=[[1]]) rfl ?_
 rw[bs ((k121 [[1]]).trans i121_1),bs ((k122 [[1],[1],[1]] [[1]]).trans m122_31)]
theorem n79_13:f79 1 3=some [[1],[1],[1]]:=by
 rw[e79,t79,bs ((k115 3 1).trans v115_31)]
 refine bt (a:=[[1]]) rfl ?_
 rw[bs ((k116 [[1]]).trans i116_1),bs ((k117 [[1],[1],[1]] [[1]]).trans m117_31)]
theorem n83_23:f83 2 3=some (some (2,3,[[1,0],[0,1],[3,2]],()),0):=by
 rw[e83,t83]
 refine bt (a:=false) rfl ?_
 rw[cb_f,bs ((k120 3 2).trans v120_32)]
 refine bt (a:=[[1,0],[1,1]]) rfl ?_
 rw[bs ((k121 [[1,0],[1,1]]).trans i121_2),bs ((k122 [[1,0],[1,1],[1,2]] [[1,0],[1,1]]).trans m122_32)]
theorem n79_23:f79 2 3=some [[1,0],[0,1],[3,2]]:=by
 rw[e79,t79,bs ((k115 3 2).trans v115_32)]
 refine bt (a:=[[1,0],[1,1]]) rfl ?_
 rw[bs ((k116 [[1,0],[1,1]]).trans i116_2),bs ((k117 [[1,0],[1,1],[1,2]] [[1,0],[1,1]]).trans m117_32)]
theorem n83_33:f83 3 3=some (some (3,3,[[1,0,0],[0,1,0],[0,0,1]],()),0):=by
 rw[e83,t83]
 refine bt (a:=false) rfl ?_
 rw[cb_f,bs ((k120 3 3).trans v120_33)]
 refine bt (a:=[[1,0,0],[1,1,1],[1,2,4]]) rfl ?_
 rw[bs ((k121 [[1,0,0],[1,1,1],[1,2,4]]).trans i121_3),bs ((k122 [[1,0,0],[1,1,1],[1,2,4]] [[1,0,0],[143,245,122],[142,244,122]]).trans m122_33)]
theorem n79_33:f79 3 3=some [[1,0,0],[0,1,0],[0,0,1]]:=by
 rw[e79,t79,bs ((k115 3 3).trans v115_33)]
 refine bt (a:=[[1,0,0],[1,1,1],[1,2,4]]) rfl ?_
 rw[bs ((k116 [[1,0,0],[1,1,1],[1,2,4]]).trans i116_3),bs ((k117 [[1,0,0],[1,1,1],[1,2,4]] [[1,0,0],[143,245,122],[142,244,122]]).trans m117_33)]
theorem n83_14:f83 1 4=some (some (1,4,[[1],[1],[1],[1]],()),0):=by
 rw[e83,t83]
 refine bt (a:=false) rfl ?_
 rw[cb_f,bs ((k120 4 1).trans v120_41)]
 refine bt (a:=[[1]]) rfl ?_
 rw[bs ((k121 [[1]]).trans i121_1),bs ((k122 [[1],[1],[1],[1]] [[1]]).trans m122_41)]
theorem n79_14:f79 1 4=some [[1],[1],[1],[1]]:=by
 rw[e79,t79,bs ((k115 4 1).trans v115_41)]
 refine bt (a:=[[1]]) rfl ?_
 rw[bs ((k116 [[1]]).trans i116_1),bs ((k117 [[1],[1],[1],[1]] [[1]]).trans m117_41)]
theorem n83_24:f83 2 4=some (some (2,4,[[1,0],[0,1],[3,2],[2,3]],()),0):=by
 rw[e83,t83]
 refine bt (a:=false) rfl ?_
 rw[cb_f,bs ((k120 4 2).trans v120_42)]
 refine bt (a:=[[1,0],[1,1]]) rfl ?_
 rw[bs ((k121 [[1,0],[1,1]]).trans i121_2),bs ((k122 [[1,0],[1,1],[1,2],[1,3]] [[1,0],[1,1]]).trans m122_42)]
theorem n79_24:f79 2 4=some [[1,0],[0,1],[3,2],[2,3]]:=by
 rw[e79,t79,bs ((k115 4 2).trans v115_42)]
 refine bt (a:=[[1,0],[1,1]]) rfl ?_
 rw[bs ((k116 [[1,0],[1,1]]).trans i116_2),bs ((k117 [[1,0],[1,1],[1,2],[1,3]] [[1,0],[1,1]]).trans m117_42)]
theorem n83_34:f83 3 4=some (some (3,4,[[1,0,0],[0,1,0],[0,0,1],[1,1,1]],()),0):=by
 rw[e83,t83]
 refine bt (a:=false) rfl ?_
 rw[cb_f,bs ((k120 4 3).trans v120_43)]
 refine bt (a:=[[1,0,0],[1,1,1],[1,2,4]]) rfl ?_
 rw[bs ((k121 [[1,0,0],[1,1,1],[1,2,4]]).trans i121_3),bs ((k122 [[1,0,0],[1,1,1],[1,2,4],[1,3,5]] [[1,0,0],[143,245,122],[142,244,122]]).trans m122_43)]
theorem n79_34:f79 3 4=some [[1,0,0],[0,1,0],[0,0,1],[1,1,1]]:=by
 rw[e79,t79,bs ((k115 4 3).trans v115_43)]
 refine bt (a:=[[1,0,0],[1,1,1],[1,2,4]]) rfl ?_
 rw[bs ((k116 [[1,0,0],[1,1,1],[1,2,4]]).trans i116_3),bs ((k117 [[1,0,0],[1,1,1],[1,2,4],[1,3,5]] [[1,0,0],[143,245,122],[142,244,122]]).trans m117_43)]
theorem n83_44:f83 4 4=some (some (4,4,[[1,0,0,0],[0,1,0,0],[0,0,1,0],[0,0,0,1]],()),0):=by
 rw[e83,t83]
 refine bt (a:=false) rfl ?_
 rw[cb_f,bs ((k120 4 4).trans v120_44)]
 refine bt (a:=[[1,0,0,0],[1,1,1,1],[1,2,4,8],[1,3,5,15]]) rfl ?_
 rw[bs ((k121 [[1,0,0,0],[1,1,1,1],[1,2,4,8],[1,3,5,15]]).trans i121_4),bs ((k122 [[1,0,0,0],[1,1,1,1],[1,2,4,8],[1,3,5,15]] [[1,0,0,0],[123,1,142,244],[0,122,244,142],[122,122,122,122]]).trans m122_44)]
theorem n79_44:f79 4 4=some [[1,0,0,0],[0,1,0,0],[0,0,1,0],[0,0,0,1]]:=by
 rw[e79,t79,bs ((k115 4 4).trans v115_44)]
 refine bt (a:=[[1,0,0,0],[1,1,1,1],[1,2,4,8],[1,3,5,15]]) rfl ?_
 rw[bs ((k116 [[1,0,0,0],[1,1,1,1],[1,2,4,8],[1,3,5,15]]).trans i116_4),bs ((k117 [[1,0,0,0],[1,1,1,1],[1,2,4,8],[1,3,5,15]] [[1,0,0,0],[123,1,142,244],[0,122,244,142],[122,122,122,122]]).trans m117_44)]
theorem n83_15:f83 1 5=some (some (1,5,[[1],[1],[1],[1],[1]],()),0):=by
 rw[e83,t83]
 refine bt (a:=false) rfl ?_
 rw[cb_f,bs ((k120 5 1).trans v120_51)]
 refine bt (a:=[[1]]) rfl ?_
 rw[bs ((k121 [[1]]).trans i121_1),bs ((k122 [[1],[1],[1],[1],[1]] [[1]]).trans m122_51)]
theorem n79_15:f79 1 5=some [[1],[1],[1],[1],[1]]:=by
 rw[e79,t79,bs ((k115 5 1).trans v115_51)]
 refine bt (a:=[[1]]) rfl ?_
 rw[bs ((k116 [[1]]).trans i116_1),bs ((k117 [[1],[1],[1],[1],[1]] [[1]]).trans m117_51)]
theorem n83_25:f83 2 5=some (some (2,5,[[1,0],[0,1],[3,2],[2,3],[5,4]],()),0):=by
 rw[e83,t83]
 refine bt (a:=false) rfl ?_
 rw[cb_f,bs ((k120 5 2).trans v120_52)]
 refine bt (a:=[[1,0],[1,1]]) rfl ?_
 rw[bs ((k121 [[1,0],[1,1]]).trans i121_2),bs ((k122 [[1,0],[1,1],[1,2],[1,3],[1,4]] [[1,0],[1,1]]).trans m122_52)]
theorem n79_25:f79 2 5=some [[1,0],[0,1],[3,2],[2,3],[5,4]]:=by
 rw[e79,t79,bs ((k115 5 2).trans v115_52)]
 refine bt (a:=[[1,0],[1,1]]) rfl ?_
 rw[bs ((k116 [[1,0],[1,1]]).trans i116_2),bs ((k117 [[1,0],[1,1],[1,2],[1,3],[1,4]] [[1,0],[1,1]]).trans m117_52)]
theorem n83_35:f83 3 5=some (some (3,5,[[1,0,0],[0,1,0],[0,0,1],[1,1,1],[15,8,6]],()),0):=by
 rw[e83,t83]
 refine bt (a:=false) rfl ?_
 rw[cb_f,bs ((k120 5 3).trans v120_53)]
 refine bt (a:=[[1,0,0],[1,1,1],[1,2,4]]) rfl ?_
 rw[bs ((k121 [[1,0,0],[1,1,1],[1,2,4]]).trans i121_3),bs ((k122 [[1,0,0],[1,1,1],[1,2,4],[1,3,5],[1,4,16]] [[1,0,0],[143,245,122],[142,244,122]]).trans m122_53)]
theorem n79_35:f79 3 5=some [[1,0,0],[0,1,0],[0,0,1],[1,1,1],[15,8,6]]:=by
 rw[e79,t79,bs ((k115 5 3).trans v115_53)]
 refine bt (a:=[[1,0,0],[1,1,1],[1,2,4]]) rfl ?_
 rw[bs ((k116 [[1,0,0],[1,1,1],[1,2,4]]).trans i116_3),bs ((k117 [[1,0,0],[1,1,1],[1,2,4],[1,3,5],[1,4,16]] [[1,0,0],[143,245,122],[142,244,122]]).trans m117_53)]
theorem n83_45:f83 4 5=some (some (4,5,[[1,0,0,0],[0,1,0,0],[0,0,1,0],[0,0,0,1],[27,28,18,20]],()),0):=by
 rw[e83,t83]
 refine bt (a:=false) rfl ?_
 rw[cb_f,bs ((k120 5 4).trans v120_54)]
 refine bt (a:=[[1,0,0,0],[1,1,1,1],[1,2,4,8],[1,3,5,15]]) rfl ?_
 rw[bs ((k121 [[1,0,0,0],[1,1,1,1],[1,2,4,8],[1,3,5,15]]).trans i121_4),bs ((k122 [[1,0,0,0],[1,1,1,1],[1,2,4,8],[1,3,5,15],[1,4,16,64]] [[1,0,0,0],[123,1,142,244],[0,122,244,142],[122,122,122,122]]).trans m122_54)]
theorem n79_45:f79 4 5=some [[1,0,0,0],[0,1,0,0],[0,0,1,0],[0,0,0,1],[27,28,18,20]]:=by
 rw[e79,t79,bs ((k115 5 4).trans v115_54)]
 refine bt (a:=[[1,0,0,0],[1,1,1,1],[1,2,4,8],[1,3,5,15]]) rfl ?_
 rw[bs ((k116 [[1,0,0,0],[1,1,1,1],[1,2,4,8],[1,3,5,15]]).trans i116_4),bs ((k117 [[1,0,0,0],[1,1,1,1],[1,2,4,8],[1,3,5,15],[1,4,16,64]] [[1,0,0,0],[123,1,142,244],[0,122,244,142],[122,122,122,122]]).trans m117_54)]
theorem n83_55:f83 5 5=some (some (5,5,[[1,0,0,0,0],[0,1,0,0,0],[0,0,1,0,0],[0,0,0,1,0],[0,0,0,0,1]],()),0):=by
 rw[e83,t83]
 refine bt (a:=false) rfl ?_
 rw[cb_f,bs ((k120 5 5).trans v120_55)]
 refine bt (a:=[[1,0,0,0,0],[1,1,1,1,1],[1,2,4,8,16],[1,3,5,15,17],[1,4,16,64,29]]) rfl ?_
 rw[bs ((k121 [[1,0,0,0,0],[1,1,1,1,1],[1,2,4,8,16],[1,3,5,15,17],[1,4,16,64,29]]).trans i121_5),bs ((k122 [[1,0,0,0,0],[1,1,1,1,1],[1,2,4,8,16],[1,3,5,15,17],[1,4,16,64,29]] [[1,0,0,0,0],[60,166,244,78,32],[215,150,110,244,219],[122,122,122,122,0],[144,75,224,192,251]]).trans m122_55)]
theorem n79_55:f79 5 5=some [[1,0,0,0,0],[0,1,0,0,0],[0,0,1,0,0],[0,0,0,1,0],[0,0,0,0,1]]:=by
 rw[e79,t79,bs ((k115 5 5).trans v115_55)]
 refine bt (a:=[[1,0,0,0,0],[1,1,1,1,1],[1,2,4,8,16],[1,3,5,15,17],[1,4,16,64,29]]) rfl ?_
 rw[bs ((k116 [[1,0,0,0,0],[1,1,1,1,1],[1,2,4,8,16],[1,3,5,15,17],[1,4,16,64,29]]).trans i116_5),bs ((k117 [[1,0,0,0,0],[1,1,1,1,1],[1,2,4,8,16],[1,3,5,15,17],[1,4,16,64,29]] [[1,0,0,0,0],[60,166,244,78,32],[215,150,110,244,219],[122,122,122,122,0],[144,75,224,192,251]]).trans m117_55)]
theorem n83_16:f83 1 6=some (some (1,6,[[1],[1],[1],[1],[1],[1]],()),0):=by
 rw[e83,t83]
 refine bt (a:=false) rfl ?_
 rw[cb_f,bs ((k120 6 1).trans v120_61)]
 refine bt (a:=[[1]]) rfl ?_
 rw[bs ((k121 [[1]]).trans i121_1),bs ((k122 [[1],[1],[1],[1],[1],[1]] [[1]]).trans m122_61)]
theorem n79_16:f79 1 6=some [[1],[1],[1],[1],[1],[1]]:=by
 rw[e79,t79,bs ((k115 6 1).trans v115_61)]
 refine bt (a:=[[1]]) rfl ?_
 rw[bs ((k116 [[1]]).trans i116_1),bs ((k117 [[1],[1],[1],[1],[1],[1]] [[1]]).trans m117_61)]
theorem n83_26:f83 2 6=some (some (2,6,[[1,0],[0,1],[3,2],[2,3],[5,4],[4,5]],()),0):=by
 rw[e83,t83]
 refine bt (a:=false) rfl ?_
 rw[cb_f,bs ((k120 6 2).trans v120_62)]
 refine bt (a:=[[1,0],[1,1]]) rfl ?_
 rw[bs ((k121 [[1,0],[1,1]]).trans i121_2),bs ((k122 [[1,0],[1,1],[1,2],[1,3],[1,4],[1,5]] [[1,0],[1,1]]).trans m122_62)]
theorem n79_26:f79 2 6=some [[1,0],[0,1],[3,2],[2,3],[5,4],[4,5]]:=by
 rw[e79,t79,bs ((k115 6 2).trans v115_62)]
 refine bt (a:=[[1,0],[1,1]]) rfl ?_
 rw[bs ((k116 [[1,0],[1,1]]).trans i116_2),bs ((k117 [[1,0],[1,1],[1,2],[1,3],[1,4],[1,5]] [[1,0],[1,1]]).trans m117_62)]
theorem n83_36:f83 3 6=some (some (3,6,[[1,0,0],[0,1,0],[0,0,1],[1,1,1],[15,8,6],[14,9,6]],()),0):=by
 rw[e83,t83]
 refine bt (a:=false) rfl ?_
 rw[cb_f,bs ((k120 6 3).trans v120_63)]
 refine bt (a:=[[1,0,0],[1,1,1],[1,2,4]]) rfl ?_
 rw[bs ((k121 [[1,0,0],[1,1,1],[1,2,4]]).trans i121_3),bs ((k122 [[1,0,0],[1,1,1],[1,2,4],[1,3,5],[1,4,16],[1,5,17]] [[1,0,0],[143,245,122],[142,244,122]]).trans m122_63)]
theorem n79_36:f79 3 6=some [[1,0,0],[0,1,0],[0,0,1],[1,1,1],[15,8,6],[14,9,6]]:=by
 rw[e79,t79,bs ((k115 6 3).trans v115_63)]
 refine bt (a:=[[1,0,0],[1,1,1],[1,2,4]]) rfl ?_
 rw[bs ((k116 [[1,0,0],[1,1,1],[1,2,4]]).trans i116_3),bs ((k117 [[1,0,0],[1,1,1],[1,2,4],[1,3,5],[1,4,16],[1,5,17]] [[1,0,0],[143,245,122],[142,244,122]]).trans m117_63)]
theorem n83_46:f83 4 6=some (some (4,6,[[1,0,0,0],[0,1,0,0],[0,0,1,0],[0,0,0,1],[27,28,18,20],[28,27,20,18]],()),0):=by
 rw[e83,t83]
 refine bt (a:=false) rfl ?_
 rw[cb_f,bs ((k120 6 4).trans v120_64)]
 refine bt (a:=[[1,0,0,0],[1,1,1,1],[1,2,4,8],[1,3,5,15]]) rfl ?_
 rw[bs ((k121 [[1,0,0,0],[1,1,1,1],[1,2,4,8],[1,3,5,15]]).trans i121_4),bs ((k122 [[1,0,0,0],[1,1,1,1],[1,2,4,8],[1,3,5,15],[1,4,16,64],[1,5,17,85]] [[1,0,0,0],[123,1,142,244],[0,122,244,142],[122,122,122,122]]).trans m122_64)]
theorem n79_46:f79 4 6=some [[1,0,0,0],[0,1,0,0],[0,0,1,0],[0,0,0,1],[27,28,18,20],[28,27,20,18]]:=by
 rw[e79,t79,bs ((k115 6 4).trans v115_64)]
 refine bt (a:=[[1,0,0,0],[1,1,1,1],[1,2,4,8],[1,3,5,15]]) rfl ?_
 rw[bs ((k116 [[1,0,0,0],[1,1,1,1],[1,2,4,8],[1,3,5,15]]).trans i116_4),bs ((k117 [[1,0,0,0],[1,1,1,1],[1,2,4,8],[1,3,5,15],[1,4,16,64],[1,5,17,85]] [[1,0,0,0],[123,1,142,244],[0,122,244,142],[122,122,122,122]]).trans m117_64)]
theorem n83_56:f83 5 6=some (some (5,6,[[1,0,0,0,0],[0,1,0,0,0],[0,0,1,0,0],[0,0,0,1,0],[0,0,0,0,1],[7,7,6,6,1]],()),0):=by
 rw[e83,t83]
 refine bt (a:=false) rfl ?_
 rw[cb_f,bs ((k120 6 5).trans v120_65)]
 refine bt (a:=[[1,0,0,0,0],[1,1,1,1,1],[1,2,4,8,16],[1,3,5,15,17],[1,4,16,64,29]]) rfl ?_
 rw[bs ((k121 [[1,0,0,0,0],[1,1,1,1,1],[1,2,4,8,16],[1,3,5,15,17],[1,4,16,64,29]]).trans i121_5),bs ((k122 [[1,0,0,0,0],[1,1,1,1,1],[1,2,4,8,16],[1,3,5,15,17],[1,4,16,64,29],[1,5,17,85,28]] [[1,0,0,0,0],[60,166,244,78,32],[215,150,110,244,219],[122,122,122,122,0],[144,75,224,192,251]]).trans m122_65)]
theorem n79_56:f79 5 6=some [[1,0,0,0,0],[0,1,0,0,0],[0,0,1,0,0],[0,0,0,1,0],[0,0,0,0,1],[7,7,6,6,1]]:=by
 rw[e79,t79,bs ((k115 6 5).trans v115_65)]
 refine bt (a:=[[1,0,0,0,0],[1,1,1,1,1],[1,2,4,8,16],[1,3,5,15,17],[1,4,16,64,29]]) rfl ?_
 rw[bs ((k116 [[1,0,0,0,0],[1,1,1,1,1],[1,2,4,8,16],[1,3,5,15,17],[1,4,16,64,29]]).trans i116_5),bs ((k117 [[1,0,0,0,0],[1,1,1,1,1],[1,2,4,8,16],[1,3,5,15,17],[1,4,16,64,29],[1,5,17,85,28]] [[1,0,0,0,0],[60,166,244,78,32],[215,150,110,244,219],[122,122,122,122,0],[144,75,224,192,251]]).trans m117_65)]
theorem n83_66:f83 6 6=some (some (6,6,[[1,0,0,0,0,0],[0,1,0,0,0,0],[0,0,1,0,0,0],[0,0,0,1,0,0],[0,0,0,0,1,0],[0,0,0,0,0,1]],()),0):=by
 rw[e83,t83]
 refine bt (a:=false) rfl ?_
 rw[cb_f,bs ((k120 6 6).trans v120_66)]
 refine bt (a:=[[1,0,0,0,0,0],[1,1,1,1,1,1],[1,2,4,8,16,32],[1,3,5,15,17,51],[1,4,16,64,29,116],[1,5,17,85,28,108]]) rfl ?_
 rw[bs ((k121 [[1,0,0,0,0,0],[1,1,1,1,1,1],[1,2,4,8,16,32],[1,3,5,15,17,51],[1,4,16,64,29,116],[1,5,17,85,28,108]]).trans i121_6),bs ((k122 [[1,0,0,0,0,0],[1,1,1,1,1,1],[1,2,4,8,16,32],[1,3,5,15,17,51],[1,4,16,64,29,116],[1,5,17,85,28,108]] [[1,0,0,0,0,0],[155,1,211,105,160,128],[219,154,9,147,176,107],[65,65,154,154,219,219],[219,0,96,64,48,203],[219,219,32,32,251,251]]).trans m122_66)]
theorem n79_66:f79 6 6=some [[1,0,0,0,0,0],[0,1,0,0,0,0],[0,0,1,0,0,0],[0,0,0,1,0,0],[0,0,0,0,1,0],[0,0,0,0,0,1]]:=by
 rw[e79,t79,bs ((k115 6 6).trans v115_66)]
 refine bt (a:=[[1,0,0,0,0,0],[1,1,1,1,1,1],[1,2,4,8,16,32],[1,3,5,15,17,51],[1,4,16,64,29,116],[1,5,17,85,28,108]]) rfl ?_
 rw[bs ((k116 [[1,0,0,0,0,0],[1,1,1,1,1,1],[1,2,4,8,16,32],[1,3,5,15,17,51],[1,4,16,64,29,116],[1,5,17,85,28,108]]).trans i116_6),bs ((k117 [[1,0,0,0,0,0],[1,1,1,1,1,1],[1,2,4,8,16,32],[1,3,5,15,17,51],[1,4,16,64,29,116],[1,5,17,85,28,108]] [[1,0,0,0,0,0],[155,1,211,105,160,128],[219,154,9,147,176,107],[65,65,154,154,219,219],[219,0,96,64,48,203],[219,219,32,32,251,251]]).trans m117_66)]
theorem n83_17:f83 1 7=some (some (1,7,[[1],[1],[1],[1],[1],[1],[1]],()),0):=by
 rw[e83,t83]
 refine bt (a:=false) rfl ?_
 rw[cb_f,bs ((k120 7 1).trans v120_71)]
 refine bt (a:=[[1]]) rfl ?_
 rw[bs ((k121 [[1]]).trans i121_1),bs ((k122 [[1],[1],[1],[1],[1],[1],[1]] [[1]]).trans m122_71)]
theorem n79_17:f79 1 7=some [[1],[1],[1],[1],[1],[1],[1]]:=by
 rw[e79,t79,bs ((k115 7 1).trans v115_71)]
 refine bt (a:=[[1]]) rfl ?_
 rw[bs ((k116 [[1]]).trans i116_1),bs ((k117 [[1],[1],[1],[1],[1],[1],[1]] [[1]]).trans m117_71)]
theorem n83_27:f83 2 7=some (some (2,7,[[1,0],[0,1],[3,2],[2,3],[5,4],[4,5],[7,6]],()),0):=by
 rw[e83,t83]
 refine bt (a:=false) rfl ?_
 rw[cb_f,bs ((k120 7 2).trans v120_72)]
 refine bt (a:=[[1,0],[1,1]]) rfl ?_
 rw[bs ((k121 [[1,0],[1,1]]).trans i121_2),bs ((k122 [[1,0],[1,1],[1,2],[1,3],[1,4],[1,5],[1,6]] [[1,0],[1,1]]).trans m122_72)]
theorem n79_27:f79 2 7=some [[1,0],[0,1],[3,2],[2,3],[5,4],[4,5],[7,6]]:=by
 rw[e79,t79,bs ((k115 7 2).trans v115_72)]
 refine bt (a:=[[1,0],[1,1]]) rfl ?_
 rw[bs ((k116 [[1,0],[1,1]]).trans i116_2),bs ((k117 [[1,0],[1,1],[1,2],[1,3],[1,4],[1,5],[1,6]] [[1,0],[1,1]]).trans m117_72)]
theorem n83_37:f83 3 7=some (some (3,7,[[1,0,0],[0,1,0],[0,0,1],[1,1,1],[15,8,6],[14,9,6],[14,8,7]],()),0):=by
 rw[e83,t83]
 refine bt (a:=false) rfl ?_
 rw[cb_f,bs ((k120 7 3).trans v120_73)]
 refine bt (a:=[[1,0,0],[1,1,1],[1,2,4]]) rfl ?_
 rw[bs ((k121 [[1,0,0],[1,1,1],[1,2,4]]).trans i121_3),bs ((k122 [[1,0,0],[1,1,1],[1,2,4],[1,3,5],[1,4,16],[1,5,17],[1,6,20]] [[1,0,0],[143,245,122],[142,244,122]]).trans m122_73)]
theorem n79_37:f79 3 7=some [[1,0,0],[0,1,0],[0,0,1],[1,1,1],[15,8,6],[14,9,6],[14,8,7]]:=by
 rw[e79,t79,bs ((k115 7 3).trans v115_73)]
 refine bt (a:=[[1,0,0],[1,1,1],[1,2,4]]) rfl ?_
 rw[bs ((k116 [[1,0,0],[1,1,1],[1,2,4]]).trans i116_3),bs ((k117 [[1,0,0],[1,1,1],[1,2,4],[1,3,5],[1,4,16],[1,5,17],[1,6,20]] [[1,0,0],[143,245,122],[142,244,122]]).trans m117_73)]
theorem n83_47:f83 4 7=some (some (4,7,[[1,0,0,0],[0,1,0,0],[0,0,1,0],[0,0,0,1],[27,28,18,20],[28,27,20,18],[18,20,27,28]],()),0):=by
 rw[e83,t83]
 refine bt (a:=false) rfl ?_
 rw[cb_f,bs ((k120 7 4).trans v120_74)]
 refine bt (a:=[[1,0,0,0],[1,1,1,1],[1,2,4,8],[1,3,5,15]]) rfl ?_
 rw[bs ((k121 [[1,0,0,0],[1,1,1,1],[1,2,4,8],[1,3,5,15]]).trans i121_4),bs ((k122 [[1,0,0,0],[1,1,1,1],[1,2,4,8],[1,3,5,15],[1,4,16,64],[1,5,17,85],[1,6,20,120]] [[1,0,0,0],[123,1,142,244],[0,122,244,142],[122,122,122,122]]).trans m122_74)]
theorem n79_47:f79 4 7=some [[1,0,0,0],[0,1,0,0],[0,0,1,0],[0,0,0,1],[27,28,18,20],[28,27,20,18],[18,20,27,28]]:=by
 rw[e79,t79,bs ((k115 7 4).trans v115_74)]
 refine bt (a:=[[1,0,0,0],[1,1,1,1],[1,2,4,8],[1,3,5,15]]) rfl ?_
 rw[bs ((k116 [[1,0,0,0],[1,1,1,1],[1,2,4,8],[1,3,5,15]]).trans i116_4),bs ((k117 [[1,0,0,0],[1,1,1,1],[1,2,4,8],[1,3,5,15],[1,4,16,64],[1,5,17,85],[1,6,20,120]] [[1,0,0,0],[123,1,142,244],[0,122,244,142],[122,122,122,122]]).trans m117_74)]
theorem n83_57:f83 5 7=some (some (5,7,[[1,0,0,0,0],[0,1,0,0,0],[0,0,1,0,0],[0,0,0,1,0],[0,0,0,0,1],[7,7,6,6,1],[9,8,9,8,1]],()),0):=by
 rw[e83,t83]
 refine bt (a:=false) rfl ?_
 rw[cb_f,bs ((k120 7 5).trans v120_75)]
 refine bt (a:=[[1,0,0,0,0],[1,1,1,1,1],[1,2,4,8,16],[1,3,5,15,17],[1,4,16,64,29]]) rfl ?_
 rw[bs ((k121 [[1,0,0,0,0],[1,1,1,1,1],[1,2,4,8,16],[1,3,5,15,17],[1,4,16,64,29]]).trans i121_5),bs ((k122 [[1,0,0,0,0],[1,1,1,1,1],[1,2,4,8,16],[1,3,5,15,17],[1,4,16,64,29],[1,5,17,85,28],[1,6,20,120,13]] [[1,0,0,0,0],[60,166,244,78,32],[215,150,110,244,219],[122,122,122,122,0],[144,75,224,192,251]]).trans m122_75)]
theorem n79_57:f79 5 7=some [[1,0,0,0,0],[0,1,0,0,0],[0,0,1,0,0],[0,0,0,1,0],[0,0,0,0,1],[7,7,6,6,1],[9,8,9,8,1]]:=by
 rw[e79,t79,bs ((k115 7 5).trans v115_75)]
 refine bt (a:=[[1,0,0,0,0],[1,1,1,1,1],[1,2,4,8,16],[1,3,5,15,17],[1,4,16,64,29]]) rfl ?_
 rw[bs ((k116 [[1,0,0,0,0],[1,1,1,1,1],[1,2,4,8,16],[1,3,5,15,17],[1,4,16,64,29]]).trans i116_5),bs ((k117 [[1,0,0,0,0],[1,1,1,1,1],[1,2,4,8,16],[1,3,5,15,17],[1,4,16,64,29],[1,5,17,85,28],[1,6,20,120,13]] [[1,0,0,0,0],[60,166,244,78,32],[215,150,110,244,219],[122,122,122,122,0],[144,75,224,192,251]]).trans m117_75)]
theorem n83_67:f83 6 7=some (some (6,7,[[1,0,0,0,0,0],[0,1,0,0,0,0],[0,0,1,0,0,0],[0,0,0,1,0,0],[0,0,0,0,1,0],[0,0,0,0,0,1],[7,6,5,4,3,2]],()),0):=by
 rw[e83,t83]
 refine bt (a:=false) rfl ?_
 rw[cb_f,bs ((k120 7 6).trans v120_76)]
 refine bt (a:=[[1,0,0,0,0,0],[1,1,1,1,1,1],[1,2,4,8,16,32],[1,3,5,15,17,51],[1,4,16,64,29,116],[1,5,17,85,28,108]]) rfl ?_
 rw[bs ((k121 [[1,0,0,0,0,0],[1,1,1,1,1,1],[1,2,4,8,16,32],[1,3,5,15,17,51],[1,4,16,64,29,116],[1,5,17,85,28,108]]).trans i121_6),bs ((k122 [[1,0,0,0,0,0],[1,1,1,1,1,1],[1,2,4,8,16,32],[1,3,5,15,17,51],[1,4,16,64,29,116],[1,5,17,85,28,108],[1,6,20,120,13,46]] [[1,0,0,0,0,0],[155,1,211,105,160,128],[219,154,9,147,176,107],[65,65,154,154,219,219],[219,0,96,64,48,203],[219,219,32,32,251,251]]).trans m122_76)]
theorem n79_67:f79 6 7=some [[1,0,0,0,0,0],[0,1,0,0,0,0],[0,0,1,0,0,0],[0,0,0,1,0,0],[0,0,0,0,1,0],[0,0,0,0,0,1],[7,6,5,4,3,2]]:=by
 rw[e79,t79,bs ((k115 7 6).trans v115_76)]
 refine bt (a:=[[1,0,0,0,0,0],[1,1,1,1,1,1],[1,2,4,8,16,32],[1,3,5,15,17,51],[1,4,16,64,29,116],[1,5,17,85,28,108]]) rfl ?_
 rw[bs ((k116 [[1,0,0,0,0,0],[1,1,1,1,1,1],[1,2,4,8,16,32],[1,3,5,15,17,51],[1,4,16,64,29,116],[1,5,17,85,28,108]]).trans i116_6),bs ((k117 [[1,0,0,0,0,0],[1,1,1,1,1,1],[1,2,4,8,16,32],[1,3,5,15,17,51],[1,4,16,64,29,116],[1,5,17,85,28,108],[1,6,20,120,13,46]] [[1,0,0,0,0,0],[155,1,211,105,160,128],[219,154,9,147,176,107],[65,65,154,154,219,219],[219,0,96,64,48,203],[219,219,32,32,251,251]]).trans m117_76)]
theorem kn_cases{k n:Nat}(h1:1<=k)(h2:k<=n)(h3:n<=7∧k<=6){P:Nat->Nat->Prop}(h:P 1 1∧P 1 2∧P 2 2∧P 1 3∧P 2 3∧P 3 3∧P 1 4∧P 2 4∧P 3 4∧P 4 4∧P 1 5∧P 2 5∧P 3 5∧P 4 5∧P 5 5∧P 1 6∧P 2 6∧P 3 6∧P 4 6∧P 5 6∧P 6 6∧P 1 7∧P 2 7∧P 3 7∧P 4 7∧P 5 7∧P 6 7):P k n:=by
 obtain⟨h11,h12,h22,h13,h23,h33,h14,h24,h34,h44,h15,h25,h35,h45,h55,h16,h26,h36,h46,h56,h66,h17,h27,h37,h47,h57,h67⟩:=h
 have hn:n=1∨n=2∨n=3∨n=4∨n=5∨n=6∨n=7:=by omega
 have hk:k=1∨k=2∨k=3∨k=4∨k=5∨k=6:=by omega
 rcases hn with rfl|rfl|rfl|rfl|rfl|rfl|rfl<;>rcases hk with rfl|rfl|rfl|rfl|rfl|rfl<;>first|assumption|omega
theorem p83{k n:Nat}(h1:1<=k)(h2:k<=n)(h3:n<=7∧k<=6):f83 k n=some (some ((k:Int),(n:Int),MT k n,()),0):=
 kn_cases (P:=fun k n=>f83 k n=some (some ((k:Int),(n:Int),MT k n,()),0)) h1 h2 h3 ⟨n83_11,n83_12,n83_22,n83_13,n83_23,n83_33,n83_14,n83_24,n83_34,n83_44,n83_15,n83_25,n83_35,n83_45,n83_55,n83_16,n83_26,n83_36,n83_46,n83_56,n83_66,n83_17,n83_27,n83_37,n83_47,n83_57,n83_67⟩
theorem p79{k n:Nat}(h1:1<=k)(h2:k<=n)(h3:n<=7∧k<=6):f79 k n=some (MT k n):=
 kn_cases (P:=fun k n=>f79 k n=some (MT k n)) h1 h2 h3 ⟨n79_11,n79_12,n79_22,n79_13,n79_23,n79_33,n79_14,n79_24,n79_34,n79_44,n79_15,n79_25,n79_35,n79_45,n79_55,n79_16,n79_26,n79_36,n79_46,n79_56,n79_66,n79_17,n79_27,n79_37,n79_47,n79_57,n79_67⟩
def unitR(k i:Nat):B:=(List.range k).map fun j=>if j=i then 1 else 0
def okM(k n:Nat):Bool:=decide ((MT k n).length=n)&&((MT k n).all fun m=>decide (m.length=k)&&m.all fun c=>decide (c∈coL))&&(List.range k).all fun i=>decide ((MT k n).getD i []=unitR k i)
theorem okM_all{k n:Nat}(h1:1<=k)(h2:k<=n)(h3:n<=7∧k<=6):okM k n=true:=kn_cases (P:=fun k n=>okM k n=true) h1 h2 h3 ⟨by kernel_rfl,by kernel_rfl,by kernel_rfl,by kernel_rfl,by kernel_rfl,by kernel_rfl,by kernel_rfl,by kernel_rfl,by kernel_rfl,by kernel_rfl,by kernel_rfl,by kernel_rfl,by kernel_rfl,by kernel_rfl,by kernel_rfl,by kernel_rfl,by kernel_rfl,by kernel_rfl,by kernel_rfl,by kernel_rfl,by kernel_rfl,by kernel_rfl,by kernel_rfl,by kernel_rfl,by kernel_rfl,by kernel_rfl,by kernel_rfl⟩
theorem MT_len{k n:Nat}(h1:1<=k)(h2:k<=n)(h3:n<=7∧k<=6):(MT k n).length=n:=by
 have:=okM_all h1 h2 h3;unfold okM at this;rw[Bool.and_eq_true,Bool.and_eq_true]at this;exact of_decide_eq_true this.1.1
theorem MT_row{k n:Nat}(h1:1<=k)(h2:k<=n)(h3:n<=7∧k<=6): ∀m∈MT k n,m.length=k∧ ∀c∈m,c∈coL:=by
 have:=okM_all h1 h2 h3;unfold okM at this;rw[Bool.and_eq_true,Bool.and_eq_true,List.all_eq_true]at this
 intro m hm
 have:=this.1.2 m hm
 rw[Bool.and_eq_true,List.all_eq_true]at this
 exact⟨of_decide_eq_true this.1,fun c hc=>of_decide_eq_true (this.2 c hc)⟩
end Mx
end
section
open Go Go.Proofs Ev
namespace Mx
theorem p123(b:B)(k:Nat)(hk:1<=k)(hk2:k<=1000)(hb:b.length<=1000000):f123 b (k:Int)=some (padK b k):=by
 have hz:=padZ_lt b.length k hk
 have hm:maxI (k:Int) 1=(k:Int):=by unfold maxI;split<;>omega
 rw[e123,t123,bs (fits_ok (by omega)),hm]
 refine it_bind (fun i=>b++List.replicate i 0) (padZ b.length k) (padK b k) (by simp) ?_ ?_ (by omega) rfl
 ·intro i hi
  have hne:=padZ_ne _ _ _ hk hi
  have e1:remI ((b++List.replicate i (0:UInt8)).length:Int) (k:Int)=_:=remI_nat (a:=(b++List.replicate i (0:UInt8)).length) (b:=k) (by omega)
  have hl:(b++List.replicate i (0:UInt8)).length=b.length+i:=by simp
  rw[hl]at e1
  rw[hl,bs e1,cd_pos (by omega),bs (app_ok (by rw[hl];simp;omega)),rep_add,List.append_assoc]
 ·have h0:=padZ_ok b.length k hk
  have e1:remI ((b++List.replicate (padZ b.length k) (0:UInt8)).length:Int) (k:Int)=_:=remI_nat (a:=(b++List.replicate (padZ b.length k) (0:UInt8)).length) (b:=k) (by omega)
  have hl:(b++List.replicate (padZ b.length k) (0:UInt8)).length=b.length+padZ b.length k:=by simp
  rw[hl]at e1
  rw[hl,bs e1,cd_neg (by omega)];rfl
theorem p78(b:B)(k:Nat)(hk:1<=k)(hk2:k<=1000)(hb:b.length<=1000000):f78 b (k:Int)=some (padK b k):=by
 have e:f78 b (k:Int)=f123 b (k:Int):=by rw[e78,e123];rfl
 rw[e,p123 b k hk hk2 hb]
def encC(M:List B)(k:Nat)(s:B):List B:=M.map (encR (padK s k) ((padK s k).length/k) k)
theorem padK_le(b:B)(k:Nat)(hk:1<=k):(padK b k).length<=b.length+k:=by
 have:=padZ_lt b.length k hk;simp[padK];omega
theorem p84(M:List B)(k n:Nat)(s:B)(hk:1<=k)(hk4:k<=6)(hM: ∀m∈M,m.length=k)(h1:1<=M.length)(h4:M.length<=7)(hs:s.length<=10000):
 f84 ((k:Int),(n:Int),M,()) s=some (encC M k s):=by
 have hpl:=pad_len s k hk
 have hle:=padK_le s k hk
 have hq:quoI ((padK s k).length:Int) (k:Int)=some (((padK s k).length/k:Nat):Int):=quoI_nat (by omega) (by omega)
 rw[e84,t84,bs (p123 s k hk (by omega) (by omega)),bs hq]
 unfold encC
 generalize padK s k=p at*
 generalize hL:p.length/k=L at*
 refine it_bind (fun i=>((List.range i).map fun i=>(p.drop (L*i)).take L,(i:Int))) k ((List.range k).map fun i=>(p.drop (L*i)).take L) rfl ?_ ?_ (by omega) ?_
 ·intro i hi
  have h2:L*(i+1)<=L*k:=Nat.mul_le_mul_left L hi
  have hkl:k*L=L*k:=Nat.mul_comm _ _
  have hlt:L*i<=L*(i+1):=Nat.mul_le_mul_left L (by omega)
  have e1:mulI (L:Int) (i:Int)=((L*i:Nat):Int):=by
   have hc:(L:Int)*(i:Int)=((L*i:Nat):Int):=by simp
   rw[mulI_ok (by rw[hc];omega) (by rw[hc];omega),hc]
  have e2:mulI (L:Int) ((i+1:Nat):Int)=((L*(i+1):Nat):Int):=by
   have hc:(L:Int)*((i+1:Nat):Int)=((L*(i+1):Nat):Int):=by simp
   rw[mulI_ok (by rw[hc];omega) (by rw[hc];omega),hc]
  dsimp only
  rw[cd_pos (by omega),addI_1 (by omega),e1,e2,bs (cut_nat hlt (by omega)),bs (app_ok (by simp;omega)),show L*(i+1)-L*i=L by rw[Nat.mul_succ];omega,List.range_succ,List.map_append];rfl
 ·dsimp only;rw[cd_neg (by omega)]
 ·dsimp only
  rw[bs (p124 p L k hk hpl (by omega) M hM h1 h4)]
theorem p36(M:List B)(k n:Nat)(s:B)(hMn:M.length=n)(h79:f79 (k:Int) (n:Int)=some M)(hk:1<=k)(hk4:k<=6)(hM: ∀m∈M,m.length=k∧ ∀c∈m,c∈coL)(h4:M.length<=7)(hs:s.length<=10000):
 f36 s (k:Int) (n:Int)=some (encC M k s):=by
 have hpl:=pad_len s k hk
 have hle:=padK_le s k hk
 have hq:quoI ((padK s k).length:Int) (k:Int)=some (((padK s k).length/k:Nat):Int):=quoI_nat (by omega) (by omega)
 rw[e36,t36,bs (p78 s k hk (by omega) (by omega)),bs hq,bs h79]
 unfold encC
 generalize padK s k=p at*
 generalize hL:p.length/k=L at*
 have hLp:L<=p.length:=by rw[hpl];exact Nat.le_mul_of_pos_right L hk
 refine it_bind (fun i=>((M.take i).map (encR p L k),(i:Int))) n (M.map (encR p L k)) (by simp) ?_ ?_ (by omega) rfl
 ·intro i hi
  have him:i<M.length:=by omega
  obtain⟨hml,hmc⟩:=hM M[i] (List.getElem_mem him)
  dsimp only
  rw[cd_pos (by omega),bs (zeros_ok (by omega))]
  refine it_bind (fun j=>((j:Int),(List.range L).map fun t=>xf (fun j=>mulT (M[i].getD j 0) (p.getD (L*j+t) 0)) j)) k (encR p L k M[i]) ?_ ?_ ?_ (by omega) ?_
  ·refine pe rfl ?_
   apply List.ext_getElem?;intro t;simp[List.getElem?_replicate,xf];split<;>simp_all
  ·intro j hj
   dsimp only
   rw[cd_pos (by omega)]
   have hjL:L*(j+1)<=L*k:=Nat.mul_le_mul_left L hj
   have hkl:L*k=p.length:=hpl.symm
   rw[Nat.mul_succ]at hjL
   have e1:mulI (j:Int) (L:Int)=((L*j:Nat):Int):=by
    have hc:(j:Int)*(L:Int)=((L*j:Nat):Int):=by simp[Int.mul_comm]
    rw[mulI_ok (by rw[hc];omega) (by rw[hc];omega),hc]
   refine it_bind (fun x=>((x:Int),(List.range L).map fun t=>xf (fun j=>mulT (M[i].getD j 0) (p.getD (L*j+t) 0)) (if t<x then j+1 else j))) L ((List.range L).map fun t=>xf (fun j=>mulT (M[i].getD j 0) (p.getD (L*j+t) 0)) (j+1)) ?_ ?_ ?_ (by omega) ?_
   ·refine pe rfl ?_
    congr 1
   ·intro x hx
    have hjm:j<M[i].length:=by omega
    have hc4:M[i].getD j 0∈coL:=by
     rw[List.getD_eq_getElem?_getD,List.getElem?_eq_getElem hjm];exact hmc _ (List.getElem_mem hjm)
    dsimp only
    rw[cd_pos (by omega),if_pos (by simp;omega),bs (at_lt him),bs (at_gd hjm 0),e1,addI_nat (by omega),bs (at_gd (by omega) 0),bs (p80 _ _ hc4),if_pos (by simp;omega),addI_1 (by omega),Int.toNat_natCast,gd_range _ _ _ _ hx,if_neg (by omega),set_map]
    refine some_inl (pe rfl ?_)
    congr 1;funext t
    by_cases c:t=x
    ·subst c;rw[if_pos rfl,if_pos (by omega)];rfl
    ·rw[if_neg c]
     by_cases d:t<x
     ·rw[if_pos d,if_pos (by omega)]
     ·rw[if_neg d,if_neg (by omega)]
   ·dsimp only
    rw[cd_neg (by omega)]
    refine some_inr ?_
    apply List.map_congr_left;intro t ht
    rw[if_pos (List.mem_range.1 ht)]
   ·rw[addI_1 (by omega)]
  ·dsimp only;rw[cd_neg (by omega)];rfl
  ·rw[bs (app_ok (by simp;omega)),addI_1 (by omega),tk M i him,List.map_append];rfl
 ·dsimp only;rw[cd_neg (by omega),←hMn,List.take_length]
end Mx
end
section
open Go Go.Proofs Ev
namespace Mx
theorem xorI_nat{a b:Nat}(ha:a<4611686018427387904)(hb:b<4611686018427387904):xorI (a:Int) (b:Int)=((a^^^b:Nat):Int):=by
 have h:=Nat.xor_lt_two_pow (n:=62) (x:=a) (y:=b) (by omega) (by omega)
 unfold xorI
 rw[BitVec.ofInt_natCast,BitVec.ofInt_natCast,BitVec.toNat_xor,BitVec.toNat_ofNat,BitVec.toNat_ofNat,Nat.mod_eq_of_lt (by omega),Nat.mod_eq_of_lt (by omega),w64_ok (by omega) (by omega)]
theorem xorI_1{a:Nat}(ha:a<4611686018427387904):xorI (a:Int) 1=((a^^^1:Nat):Int):=xorI_nat (b:=1) ha (by omega)
theorem quoI_2{a:Nat}(ha:a<4611686018427387904):quoI (a:Int) 2=some ((a/2:Nat):Int):=quoI_nat (b:=2) (by omega) (by omega)
noncomputable def proofC(l:List H)(i:Nat)(k:Nat):List H:=(List.range k).map fun j=>(upN (rowC l) j).getD ((i/2^j)^^^1) default
theorem half_lt(i c j:Nat)(h:i<2^c)(hj:j<c):(i/2^j)^^^1<2^(c-j):=by
 refine Nat.xor_lt_two_pow ?_ ?_
 ·rw[Nat.div_lt_iff_lt_mul (Nat.pow_pos (by omega)),←Nat.pow_add,show c-j+j=c by omega];exact h
 ·have:2^1<=2^(c-j):=Nat.pow_le_pow_right (by omega) (by omega)
  omega
theorem div_small(i j:Nat)(h:i<=1000):i/2^j<=1000:=Nat.le_trans (Nat.div_le_self _ _) h
theorem p39(l:List H)(i:Nat)(hl:l.length<=16)(hi:i<l.length):f39 (i:Int) l=some (proofC l i (lg l.length)):=by
 have h4:=lg_le l.length
 have hg:=lg_ge l.length hl
 have hrl:=rowC_len l hl
 rw[e39,t39,bs (p66 l hl)]
 refine it_bind (fun j=>(((i/2^j:Nat):Int),proofC l i j,upN (rowC l) j)) (lg l.length) (proofC l i (lg l.length)) (by simp[proofC,upN]) ?_ ?_ (by omega) rfl
 ·intro j hj
  have hu:=upN_len (rowC l) (lg l.length) hrl j (by omega)
  have h6:2^1<=2^(lg l.length-j):=Nat.pow_le_pow_right (by omega) (by omega)
  have h16:=pow16 h4 j
  have hx:=half_lt i (lg l.length) j (by omega) hj
  have hd:=div_small i j (by omega)
  dsimp only
  rw[cd_pos (by omega),xorI_1 (by omega),bs (at_gd (by omega) default),bs (app_ok (by simp[proofC];omega)),bs (quoI_2 (by omega)),bs (p67 _ (by omega))]
  refine some_inl (pe ?_ (pe ?_ rfl))
  ·rw[Nat.div_div_eq_div_mul,Nat.pow_succ]
  ·rw[proofC,proofC,List.range_succ,List.map_append];rfl
 ·have hu:=upN_len (rowC l) (lg l.length) hrl (lg l.length) (Nat.le_refl _)
  rw[Nat.sub_self]at hu
  dsimp only;rw[cd_neg (by omega)]
theorem p86(l:List H)(i:Nat)(hl:l.length<=8)(hi:i<l.length):f86 (i:Int) l=some (proofC l i (lg l.length),0):=by
 have h4:=lg_le l.length
 have hg:=lg_ge l.length (by omega)
 have hrl:=rowC_len l (by omega)
 rw[e86,t86,cd_neg (by omega),decide_eq_false (show¬(l.length:Int)<=(i:Int)by omega)]
 refine bt (a:=false) rfl ?_
 rw[cb_f,bs (p96 l (by omega) hl),rowsC_len,subI_ok (by omega) (by omega),show((lg l.length+1:Nat):Int)-1=((lg l.length:Nat):Int)by omega]
 have hc:cut? (rowsC l) 0 ((lg l.length:Nat):Int)=some (((rowsC l).drop 0).take (lg l.length-0)):=cut_nat (a:=0) (by omega) (by rw[rowsC_len];omega)
 rw[bs hc,List.drop_zero,Nat.sub_zero]
 have hlen:((rowsC l).take (lg l.length)).length=lg l.length:=by rw[List.length_take,rowsC_len];omega
 have hat: ∀j:Nat,j<lg l.length->at? ((rowsC l).take (lg l.length)) (j:Int)=some (upN (rowC l) j):=fun j hj=>by
  rw[at_nat,List.getElem?_take,if_pos hj,←at_nat,rowsC_at l j (by omega)]
 refine it_bind (fun j=>(((i/2^j:Nat):Int),proofC l i j,(j:Int))) (lg l.length) (proofC l i (lg l.length)) (by simp[proofC]) ?_ ?_ (by omega) rfl
 ·intro j hj
  have hu:=upN_len (rowC l) (lg l.length) hrl j (by omega)
  have hx:=half_lt i (lg l.length) j (by omega) hj
  have hd:=div_small i j (by omega)
  dsimp only
  rw[hlen,cd_pos (by omega),bs (hat j hj),xorI_1 (by omega),bs (at_gd (by omega) default),bs (app_ok (by simp[proofC];omega)),bs (quoI_2 (by omega)),addI_1 (by omega)]
  refine some_inl (pe ?_ (pe ?_ rfl))
  ·rw[Nat.div_div_eq_div_mul,Nat.pow_succ]
  ·rw[proofC,proofC,List.range_succ,List.map_append];rfl
 ·dsimp only;rw[hlen,cd_neg (by omega)]
theorem stepsI_ok{R:Type}(e:List B): ∀(m i:Nat) (K:List B->Option R),i+m=e.length->stepsI e m i K=K (e.drop i)
 |0,i,K,h=>by rw[stepsI,cd_neg (by omega),List.drop_eq_nil_of_le (by omega)]
 |m+1,i,K,h=>by rw[stepsI,cd_pos (by omega),bs (at_lt (show i<e.length by omega)),stepsI_ok e m (i+1) _ (by omega),List.drop_eq_getElem_cons (show i<e.length by omega)]
theorem stepsR_ok{R:Type}(e:List B): ∀(m i:Nat) (K:List B->Option R),i+m=e.length->stepsR e m i K=K (e.drop i)
 |0,i,K,h=>by rw[stepsR,List.drop_eq_nil_of_le (by omega)]
 |m+1,i,K,h=>by rw[stepsR,bs (at_lt (show i<e.length by omega)),stepsR_ok e m (i+1) _ (by omega),List.drop_eq_getElem_cons (show i<e.length by omega)]
theorem segsI_ok{R:Type}{st:List B->(List B->Option R)->Option R}{enc:B->(List B->Option R)->Option R}(E:B->List B)(ss:List B)(h: ∀s∈ss,∀K,enc s K=K (E s))(h2: ∀s∈ss,∀K,st (E s) K=K (E s)):
 ∀(q j:Nat) (K:List (List B)->Option R),j+q=ss.length->segsI st enc ss q j K=K ((ss.drop j).map E)
 |0,j,K,hq=>by rw[segsI,cd_neg (by omega),List.drop_eq_nil_of_le (by omega)];rfl
 |q+1,j,K,hq=>by
  have hj:j<ss.length:=by omega
  rw[segsI,cd_pos (by omega),bs (at_lt hj),h _ (List.getElem_mem hj),h2 _ (List.getElem_mem hj),segsI_ok E ss h h2 q (j+1) _ (by omega),List.drop_eq_getElem_cons hj];rfl
theorem segsI_no{R:Type}{st:List B->(List B->Option R)->Option R}{enc:B->(List B->Option R)->Option R}(E:B->List B)(ss:List B)(h: ∀s∈ss,∀K,enc s K=K (E s))(h2: ∀s∈ss,∀K,st (E s) K=K (E s)):
 ∀(q j:Nat) (K:List (List B)->Option R),j+q<ss.length->segsI st enc ss q j K=none
 |0,j,K,hq=>by rw[segsI,cd_pos (by omega)]
 |q+1,j,K,hq=>by
  have hj:j<ss.length:=by omega
  rw[segsI,cd_pos (by omega),bs (at_lt hj),h _ (List.getElem_mem hj),h2 _ (List.getElem_mem hj),segsI_no E ss h h2 q (j+1) _ (by omega)]
theorem leafS_ok{R:Type}(y:ShT->Option H32)(rows:List (List B))(g:Nat->H)(N:Nat)(h: ∀i,i<N->y (numOf rows i,[],[],blkOf rows i,())=some (g i)):
 ∀(m i:Nat) (K:List H32->Option R),i+m=N->leafS y rows m i K=K ((List.range' i m).map g)
 |0,i,K,hm=>rfl
 |m+1,i,K,hm=>by rw[leafS,bs (h i (by omega)),leafS_ok y rows g N h m (i+1) _ (by omega)];rfl
def shC(u:B)(p:Nat->List H)(rows:List (List B))(i:Nat):ShT:=(numOf rows i,u,p i,blkOf rows i,())
theorem endI_ok{R:Type}(y86:Int->List H32->Option (List H32×Int))(ls:List H32)(rows:List (List B))(N:Nat)(p:Nat->List H)(h: ∀i:Nat,i<N->y86 (i:Int) ls=some (p i,0)):
 ∀(m i:Nat) (K:List ShT->Option R),i+m=N->endI y86 ls rows m i K=K ((List.range' i m).map (shC [] p rows))
 |0,i,K,_=>rfl
 |m+1,i,K,hm=>by rw[endI,bs (h i (by omega)),endI_ok y86 ls rows N p h m (i+1) _ (by omega)];rfl
theorem endR_ok{R:Type}(y27:UT->Option (List UInt8))(y39:Int->List H32->Option (List H32))(u:UT)(b:B)(hu:y27 u=some b)(ls:List H32)(rows:List (List B))(N:Nat)(p:Nat->List H)(h: ∀i:Nat,i<N->y39 (i:Int) ls=some (p i)):
 ∀(m i:Nat) (K:List ShT->Option R),i+m=N->endR y27 y39 u ls rows m i K=K ((List.range' i m).map (shC b p rows))
 |0,i,K,_=>rfl
 |m+1,i,K,hm=>by rw[endR,bs hu,bs (h i (by omega)),endR_ok y27 y39 u b hu ls rows N p h m (i+1) _ (by omega)];rfl
end Mx
end
section
open Go Go.Proofs Ev
namespace Mx
def rowsS(k n:Nat)(b:B):List (List B):=(segs b).map (encC (MT k n) k)
noncomputable def lvS(k n:Nat)(b:B):List H:=(List.range n).map fun i=>root ((blkOf (rowsS k n b) i).map leaf)
noncomputable def rootS(k n:Nat)(b:B):H:=root (lvS k n b)
noncomputable def prS(k n:Nat)(b:B)(i:Nat):List H:=proofC (lvS k n b) i (lg n)
noncomputable def shS(u:B)(k n:Nat)(b:B):List ShT:=(List.range n).map (shC u (prS k n b) (rowsS k n b))
theorem shS_len(u:B)(k n:Nat)(b:B):(shS u k n b).length=n:=by simp[shS]
theorem shS_ueb(u:B)(k n:Nat)(b:B): ∀s∈shS u k n b,s.2.1=u:=fun s hs=>by
 obtain⟨i,_,rfl⟩:=List.mem_map.1 hs;rfl
theorem rowsS_len(k n:Nat)(b:B):(rowsS k n b).length=nseg b.length:=by simp[rowsS]
theorem encC_len(M:List B)(k:Nat)(s:B):(encC M k s).length=M.length:=by simp[encC]
theorem enc_small{M:List B}{k:Nat}{s:B}(hk:1<=k)(hk4:k<=6)(hs:s.length<=64): ∀c∈encC M k s,c.length<=100:=by
 intro c hc
 simp only[encC,List.mem_map]at hc
 obtain⟨m,_,rfl⟩:=hc
 have:=padK_le s k hk
 have h2:(padK s k).length/k<=(padK s k).length:=Nat.div_le_self _ _
 simp[encR];omega
section
variable {k n : Nat} {b : B} (h1 : 1 <= k) (h2 : k <= n) (h3 : n <= 7 ∧ k <= 6) (hb1 : 1 <= b.length) (hb : b.length <= 256 ∨ 960 < b.length ∧ b.length <= 1024 ∧ n = 3)
include h1 h2 h3 hb1 hb
theorem nseg13:1<=nseg b.length∧(nseg b.length<=4∨nseg b.length=16∧n=3):=by unfold nseg;omega
theorem blk_small(i:Nat)(hi:i<n): ∀c∈blkOf (rowsS k n b) i,c.length<=100:=by
 intro c hc
 simp only[blkOf,rowsS,List.mem_map,List.map_map,Function.comp]at hc
 obtain⟨s,hs,rfl⟩:=hc
 have hl:i<(encC (MT k n) k s).length:=by rw[encC_len,MT_len h1 h2 h3];exact hi
 refine enc_small (M:=MT k n) h1 (by omega) (segs_mem hs) _ ?_
 rw[List.getD_eq_getElem?_getD,List.getElem?_eq_getElem hl]
 exact List.getElem_mem hl
theorem blk_len(i:Nat):(blkOf (rowsS k n b) i).length=nseg b.length:=by simp[blkOf,rowsS_len]
theorem lv_len:(lvS k n b).length=n:=by simp[lvS]
theorem q46:t46 f55 f83 f84 f85 f86 f87 b (k:Int) n (nseg b.length)=some (shS [] k n b,rootS k n b)∧ ∀q,q<nseg b.length->t46 f55 f83 f84 f85 f86 f87 b (k:Int) n q=none:=by
 have hns:=nseg13 h1 h2 h3 hb1 hb
 have hMl:=MT_len h1 h2 h3
 have hrow:=MT_row h1 h2 h3
 have henc: ∀ {R:Type},∀s∈segs b,∀K:List B->Option R,((some ((k:Int),(n:Int),MT k n,())):Option _).bind (fun c=>(f84 c s).bind K)=K (encC (MT k n) k s):=fun s hs K=>by
  have:=segs_mem hs
  rw[Option.bind_some,bs (p84 (MT k n) k n s h1 (by omega) (fun m hm=>(hrow m hm).1) (by omega) (by omega) (by omega))]
 have hst: ∀ {R:Type},∀s∈segs b,∀K:List B->Option R,stepsI (encC (MT k n) k s) n 0 K=K (encC (MT k n) k s):=fun s hs K=>by
  rw[stepsI_ok _ n 0 K (by rw[encC_len];omega),List.drop_zero]
 have hleaf: ∀i,i<n->f85 (numOf (rowsS k n b) i,[],[],blkOf (rowsS k n b) i,())=some (root ((blkOf (rowsS k n b) i).map leaf)):=fun i hi=>by
  have hbl:=blk_len h1 h2 h3 hb1 hb i
  exact p85 (numOf (rowsS k n b) i,[],[],blkOf (rowsS k n b) i,()) (fun c hc=>by have:=blk_small h1 h2 h3 hb1 hb i hi c hc;omega) (by dsimp only;omega) (by dsimp only;omega)
 have hlv:=lv_len h1 h2 h3 hb1 hb
 have hpr: ∀i:Nat,i<n->f86 (i:Int) (lvS k n b)=some (prS k n b i,0):=fun i hi=>by rw[p86 (lvS k n b) i (by omega) (by omega),hlv];rfl
 refine⟨?_,fun q hq=> ?_⟩
 ·rw[t46,bs (p83 h1 h2 h3),bs (p55 b (by omega))]
  dsimp only
  rw[segsI_ok (encC (MT k n) k) (segs b) henc hst _ 0 _ (by simp),List.drop_zero]
  show leafS f85 (rowsS k n b) n 0 _=_
  rw[leafS_ok f85 (rowsS k n b) _ n hleaf n 0 _ (by omega),←List.range_eq_range']
  show(endI f86 (lvS k n b) (rowsS k n b) n 0 fun l=>(f87 (lvS k n b)).bind fun h=>some (l,h))=_
  rw[endI_ok f86 (lvS k n b) (rowsS k n b) n (prS k n b) hpr n 0 _ (by omega),bs (p87 _ (by omega) (by omega)),←List.range_eq_range'];rfl
 ·rw[t46,bs (p83 h1 h2 h3),bs (p55 b (by omega))]
  dsimp only
  rw[segsI_no (encC (MT k n) k) (segs b) henc hst _ 0 _ (by simp;omega)]
theorem q16:t16 f27 f28 f30 f36 f37 f38 f39 b (k:Int) n (nseg b.length)=some (shS (packC k n b.length 64 (crypt b) (rootS k n b)) k n b,mkU k n b.length 64 (crypt b) (rootS k n b))∧ ∀q,q<nseg b.length->t16 f27 f28 f30 f36 f37 f38 f39 b (k:Int) n q=none:=by
 have hns:=nseg13 h1 h2 h3 hb1 hb
 have hMl:=MT_len h1 h2 h3
 have hrow:=MT_row h1 h2 h3
 have henc: ∀ {R:Type},∀s∈segs b,∀K:List B->Option R,(f36 s (k:Int) (n:Int)).bind K=K (encC (MT k n) k s):=fun s hs K=>by
  have:=segs_mem hs
  rw[bs (p36 (MT k n) k n s hMl (p79 h1 h2 h3) h1 (by omega) hrow (by omega) (by omega))]
 have hst: ∀ {R:Type},∀s∈segs b,∀K:List B->Option R,stepsR (encC (MT k n) k s) n 0 K=K (encC (MT k n) k s):=fun s hs K=>by
  rw[stepsR_ok _ n 0 K (by rw[encC_len];omega),List.drop_zero]
 have hleaf: ∀i,i<n->f37 (numOf (rowsS k n b) i,[],[],blkOf (rowsS k n b) i,())=some (root ((blkOf (rowsS k n b) i).map leaf)):=fun i hi=>by
  have hbl:=blk_len h1 h2 h3 hb1 hb i
  exact p37 (numOf (rowsS k n b) i,[],[],blkOf (rowsS k n b) i,()) (fun c hc=>by have:=blk_small h1 h2 h3 hb1 hb i hi c hc;omega) (by dsimp only;omega)
 have hlv:=lv_len h1 h2 h3 hb1 hb
 have hpr: ∀i:Nat,i<n->f39 (i:Int) (lvS k n b)=some (prS k n b i):=fun i hi=>by rw[p39 (lvS k n b) i (by omega) (by omega),hlv];rfl
 refine⟨?_,fun q hq=> ?_⟩
 ·rw[t16,bs (p30 b (by omega))]
  rw[segsI_ok (encC (MT k n) k) (segs b) henc hst _ 0 _ (by simp),List.drop_zero]
  show leafS f37 (rowsS k n b) n 0 _=_
  rw[leafS_ok f37 (rowsS k n b) _ n hleaf n 0 _ (by omega),←List.range_eq_range']
  show(f28 b).bind _=_
  rw[bs (p28 b (by omega))]
  show(f38 (lvS k n b)).bind _=_
  rw[bs (p38 _ (by omega))]
  show endR f27 f39 (mkU k n b.length 64 (crypt b) (rootS k n b)) (lvS k n b) (rowsS k n b) n 0 _=_
  rw[endR_ok f27 f39 (mkU k n b.length 64 (crypt b) (rootS k n b)) _ (p27 k n b.length 64 (crypt b) (rootS k n b) (by omega) (by omega) (by omega) (by omega)) (lvS k n b) (rowsS k n b) n (prS k n b) hpr n 0 _ (by omega),←List.range_eq_range'];rfl
 ·rw[t16,bs (p30 b (by omega))]
  rw[segsI_no (encC (MT k n) k) (segs b) henc hst _ 0 _ (by simp;omega)]
omit h1 h2 h3 hb1 hb in
theorem orAll5{α:Type}(T:Nat->Option α)(Q:Nat)(v:α)(hq:1<=Q∧Q<=4)(hs:T Q=some v)(hn: ∀q,q<Q->T q=none)(l:List (Option α)):orAll (T 0::T 1::T 2::T 3::T 4::l)=some v:=by
 have:Q=1∨Q=2∨Q=3∨Q=4:=by omega
 rcases this with rfl|rfl|rfl|rfl
 ·rw[hn 0 (by omega),hs];rfl
 ·rw[hn 0 (by omega),hn 1 (by omega),hs];rfl
 ·rw[hn 0 (by omega),hn 1 (by omega),hn 2 (by omega),hs];rfl
 ·rw[hn 0 (by omega),hn 1 (by omega),hn 2 (by omega),hn 3 (by omega),hs];rfl
omit h1 h2 h3 hb1 hb in
theorem orAll6{α:Type}(T:Nat->Option α)(v:α)(hs:T 16=some v)(hn: ∀q,q<16->T q=none):orAll [T 0,T 1,T 2,T 3,T 4,T 16]=some v:=by
 rw[hn 0 (by omega),hn 1 (by omega),hn 2 (by omega),hn 3 (by omega),hn 4 (by omega),hs];rfl
theorem p46:f46 b (k:Int) (n:Int)=some (shS [] k n b,rootS k n b):=by
 obtain⟨hs,hn⟩:=q46 h1 h2 h3 hb1 hb
 have hns:=nseg13 h1 h2 h3 hb1 hb
 by_cases c:n=3
 ·subst c
  rcases hns.2 with h|h
  ·exact(e46_3 b k).trans (orAll5 (fun q=>t46 f55 f83 f84 f85 f86 f87 b (k:Int) 3 q) _ _ ⟨hns.1,h⟩ hs hn _)
  ·rw[h.1]at hs hn
   exact(e46_3 b k).trans (orAll6 (fun q=>t46 f55 f83 f84 f85 f86 f87 b (k:Int) 3 q) _ hs hn)
 ·have key:=fun l=>orAll5 (fun q=>t46 f55 f83 f84 f85 f86 f87 b (k:Int) n q) _ _ ⟨hns.1,by omega⟩ hs hn l
  have:n=1∨n=2∨n=4∨n=5∨n=6∨n=7:=by omega
  rcases this with rfl|rfl|rfl|rfl|rfl|rfl
  ·exact(e46_1 b k).trans (key [])
  ·exact(e46_2 b k).trans (key [])
  ·exact(e46_4 b k).trans (key [])
  ·exact(e46_5 b k).trans (key [])
  ·exact(e46_6 b k).trans (key [])
  ·exact(e46_7 b k).trans (key [])
theorem p16:f16 b (k:Int) (n:Int)=some (shS (packC k n b.length 64 (crypt b) (rootS k n b)) k n b,mkU k n b.length 64 (crypt b) (rootS k n b)):=by
 obtain⟨hs,hn⟩:=q16 h1 h2 h3 hb1 hb
 have hns:=nseg13 h1 h2 h3 hb1 hb
 by_cases c:n=3
 ·subst c
  rcases hns.2 with h|h
  ·exact(e16_3 b k).trans (orAll5 (fun q=>t16 f27 f28 f30 f36 f37 f38 f39 b (k:Int) 3 q) _ _ ⟨hns.1,h⟩ hs hn _)
  ·rw[h.1]at hs hn
   exact(e16_3 b k).trans (orAll6 (fun q=>t16 f27 f28 f30 f36 f37 f38 f39 b (k:Int) 3 q) _ hs hn)
 ·have key:=fun l=>orAll5 (fun q=>t16 f27 f28 f30 f36 f37 f38 f39 b (k:Int) n q) _ _ ⟨hns.1,by omega⟩ hs hn l
  have:n=1∨n=2∨n=4∨n=5∨n=6∨n=7:=by omega
  rcases this with rfl|rfl|rfl|rfl|rfl|rfl
  ·exact(e16_1 b k).trans (key [])
  ·exact(e16_2 b k).trans (key [])
  ·exact(e16_4 b k).trans (key [])
  ·exact(e16_5 b k).trans (key [])
  ·exact(e16_6 b k).trans (key [])
  ·exact(e16_7 b k).trans (key [])
end
end Mx
end
section
open Go Go.Proofs Ev
namespace Mx
abbrev BB:=List UInt8×List UInt8×Unit
abbrev SI:=Int×BB
abbrev OI:=BB ⊕ (Bool×BB)
section
variable {step : Int -> SI -> Option (SI ⊕ OI)} {K : Nat} {w : Nat -> Nat} {bad : Nat -> Nat -> Prop} {br : Nat -> Nat -> BB}
 (hK:K<=1000) (hw: ∀j,j<K->w j<=1000000)
 (hs: ∀j,j<K-> ∀i,i<w j-> ∀z,¬bad j i->step (j:Int) (((2*i:Nat):Int),z)=some (.inl (((2*(i+1):Nat):Int),z)))
 (hb: ∀j,j<K-> ∀i,i<w j-> ∀z,bad j i->step (j:Int) (((2*i:Nat):Int),z)=some (.inr (.inr (true,br j i))))
 (he: ∀j,j<K-> ∀z,step (j:Int) (((2*w j:Nat):Int),z)=some (.inr (.inl z)))
include hK hw hs hb he
end
end Mx
end
section
open Go Go.Proofs Ev
namespace Mx
section
variable (l m : List H) (hN1 : 1 <= l.length) (hN : l.length <= 4) (hlm : l.length = m.length)
include hN1 hN hlm
omit hN1 hN hlm in
omit hN1 hN hlm in
end
end Mx
end
section
open Go Go.Proofs Ev
namespace Mx
theorem nets_le{c:Nat}(hc:c<1000000): ∀(l:List B),(∀b∈l,b.length<=c)->(nets l).length<=l.length*(c+8)
 |[],_=>by simp[nets]
 |b::l,h=>by
  have h1:=nets_le hc l fun d hd=>h d (List.mem_cons_of_mem _ hd)
  have h2:=h b List.mem_cons_self
  have h3:=net_len b (by omega)
  rw[nets_cons,List.length_append,List.length_cons,Nat.succ_mul];omega
theorem packC_le(k n z g:Nat)(c s:H):(packC k n z g c s).length<=240:=by
 have:=nets_le (c:=32) (by omega) (rowsU k n z g c s) (rowsU_len k n z g c s)
 simpa[packC,rowsU]using this
abbrev Cp:=Int×Vector UInt8 16×Vector UInt8 32×Int×Int×Int×List UInt8×Unit
section
variable (C : Cp) (a b : U) (p q x y : B) (ha1 : f47 a = some p) (ha2 : f27 a = some p) (hb1 : f47 b = some q) (hb2 : f27 b = some q) (lp : p.length <= 240) (lq : q.length <= 240) (hxl : x.length <= 192) (hyl : y.length <= 192)
include ha1 ha2 hb1 hb2 lp lq hxl hyl
end
end Mx
end
section
open Go Go.Proofs Ev
namespace Mx
theorem p5(b:B)(n:Nat):f5 b (n:Int)=some (b.take n):=by
 rw[e5,t5,minI_nat]
 have h:cut? b 0 ((min b.length n:Nat):Int)=some ((b.drop 0).take (min b.length n-0)):=cut_nat (a:=0) (by omega) (by omega)
 rw[bs h,List.drop_zero,Nat.sub_zero]
 congr 1
 by_cases c:n<=b.length
 ·rw[Nat.min_eq_right c]
 ·rw[Nat.min_eq_left (by omega),List.take_of_length_le (Nat.le_refl _),List.take_of_length_le (by omega)]
theorem p91(b:B)(h:b.length<=4294967296):f91 b=some b:=fits_ok h
theorem p13(a:B)(h:a.length<1000000000):f13 a a=some true:=by
 rw[e13,t13,cd_neg (by omega)]
 refine it_bind (fun i=>(i:Int)) a.length (.inl ()) rfl ?_ ?_ (by omega) rfl
 ·intro i hi
  rw[cd_pos (by omega),bs (at_gd hi 0),bs (at_gd hi 0),cd_neg (fun h=>h rfl),addI_1 (by omega)]
 ·rw[cd_neg (by omega)]
theorem p45(b:B)(k n:Nat)(h1:1<=k)(h2:k<=n)(h3:n<=7∧k<=6)(hb1:1<=b.length)(hb:b.length<=256∨960<b.length∧b.length<=1024∧n=3):f45 b (k:Int) (n:Int)=some true:=by
 rw[e45,t45,cd_pos (by omega),cd_pos (by omega),cd_pos (by omega),cd_pos (by omega),decide_eq_true (show(n:Int)<=16 by omega)];rfl
theorem p15(b k n:Nat)(h1:1<=k)(h2:k<=n)(h3:n<=7∧k<=6)(hb1:1<=b)(hb:b<=1024):f15 (b:Int) (k:Int) (n:Int)=some true:=by
 rw[e15,t15,cd_pos (by omega),cd_pos (by omega),cd_pos (by omega),cd_pos (by omega),decide_eq_true (show(n:Int)<=16 by omega)];rfl
noncomputable def uebC(key:V16)(b:B)(k n:Nat):B:=packC k n b.length 64 (crypt (stream key b)) (rootS k n (stream key b))
noncomputable def capC(key:V16)(b:B)(k n:Nat):Cp:=(1,key,uebH (uebC key b k n),(k:Int),(n:Int),(b.length:Int),[],())
section
variable {k n : Nat} {b : B} (key : V16) (h1 : 1 <= k) (h2 : k <= n) (h3 : n <= 7 ∧ k <= 6) (hb1 : 1 <= b.length) (hb : b.length <= 256 ∨ 960 < b.length ∧ b.length <= 1024 ∧ n = 3)
include h1 h2 h3 hb1 hb
theorem p7:f7 key b (k:Int) (n:Int)=some (capC key b k n,shS (uebC key b k n) k n (stream key b),0):=by
 have hs:=p16 (b:=stream key b) h1 h2 h3 (by simpa using hb1) (by simpa using hb)
 rw[stream_len]at hs
 have lp:=packC_le k n b.length 64 (crypt (stream key b)) (rootS k n (stream key b))
 rw[e7,t7,bs (p15 b.length k n h1 h2 h3 hb1 (by omega)),cn_t,bs (p17 key b (by omega)),bs hs]
 dsimp only
 have hl:=shS_len (uebC key b k n) k n (stream key b)
 have hm:(shS (uebC key b k n) k n (stream key b)).getD 0 (0,[],[],[],())∈shS (uebC key b k n) k n (stream key b):=by
  have:0<(shS (uebC key b k n) k n (stream key b)).length:=by omega
  rw[List.getD_eq_getElem?_getD,List.getElem?_eq_getElem this];exact List.getElem_mem this
 have hu:=shS_ueb (uebC key b k n) k n (stream key b) _ hm
 show(at? (shS (uebC key b k n) k n (stream key b)) 0).bind _=_
 rw[bs (at_g0 (by omega) (0,[],[],[],())),hu]
 refine bt (p18 (uebC key b k n) (by unfold uebC;omega)) ?_
 rfl
theorem p19:f19 key b (k:Int) (n:Int)=some (capC key b k n,shS (uebC key b k n) k n (stream key b),0):=by
 have hs:=p46 (b:=stream key b) h1 h2 h3 (by simpa using hb1) (by simpa using hb)
 have lp:=packC_le k n b.length 64 (crypt (stream key b)) (rootS k n (stream key b))
 have h48:=p48 (stream key b) (by simpa using hb1) (by simp;omega)
 have h47:=p47 k n b.length 64 (crypt (stream key b)) (rootS k n (stream key b)) (by omega) (by omega) (by omega) (by omega)
 rw[e19,t19,bs (p45 b k n h1 h2 h3 hb1 hb),cn_t,bs (p23 key b (by omega)),bs hs,bs h48]
 refine bt h47 ?_
 rw[bs (p49 _ (by omega))]
 have hl:=shS_len [] k n (stream key b)
 have hend:shS (uebC key b k n) k n (stream key b)=(shS [] k n (stream key b)).map fun s=>(s.1,uebC key b k n,s.2.2):=by simp[shS,shC]
 rw[hend]
 generalize shS [] k n (stream key b)=l at*
 refine it_bind (fun i=>((i:Int),(l.take i).map (fun s=>(s.1,uebC key b k n,s.2.2))++l.drop i)) n (l.map fun s=>(s.1,uebC key b k n,s.2.2)) (by simp) ?_ ?_ (by omega) rfl
 ·intro i hi
  have hil:i<l.length:=by omega
  have hd:l.drop i=l[i]::l.drop (i+1):=List.drop_eq_getElem_cons hil
  have hlen:((l.take i).map (fun s=>((s.1,uebC key b k n,s.2.2):ShT))).length=i:=by simp;omega
  dsimp only
  rw[hl,cd_pos (by omega),bs (p91 _ (by omega)),if_pos (by simp;omega),addI_1 (by omega),Int.toNat_natCast,hd]
  have hg:((l.take i).map (fun s=>((s.1,uebC key b k n,s.2.2):ShT))++l[i]::l.drop (i+1)).getD i (0,[],[],[],())=l[i]:=by
   rw[List.getD_eq_getElem?_getD,List.getElem?_append_right (by omega),hlen,Nat.sub_self];rfl
  rw[hg,set_past _ _ _ _ _ hlen,tk l i hil,List.map_append,List.append_assoc];rfl
 ·dsimp only
  rw[hl,cd_neg (by omega),List.take_of_length_le (by omega),List.drop_eq_nil_of_le (by omega),List.append_nil]
end
end Mx
end
