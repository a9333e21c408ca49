/-
  Rules and plain laws that the walks use.
-/
import Derived.Test.YtohjlkjhpibkmaaGreatDoorD04
import Derived.Test.YtohjlkjhpibkmaaGreatDoorProg
import Derived.KernelRfl
import Derived.Test.YtohjlkjhpibkmaaGreatDoorD03
import Derived.Test.YtohjlkjhpibkmaaGreatDoorD05
set_option linter.unusedSimpArgs false
set_option linter.unusedVariables false
namespace Go.Proofs.YtohjlkjhpibkmaaGreatDoor
open Go Go.LK Go.Proofs.Tryz
set_option maxRecDepth 100000
set_option maxHeartbeats 4000000
abbrev U3:=@runUnderlying3
abbrev Z3:=@sizeOf3
abbrev A3:=@isAgg3
abbrev Y3:=@zeroValue3
abbrev N3:=@underlying3
abbrev Z4:=@sizeOf4
abbrev A4:=@isAgg4
abbrev N4:=@underlying4
abbrev Z5:=@sizeOf5
abbrev U23:=@runUnderlying23
abbrev Z23:=@sizeOf23
abbrev A23:=@isAgg23
abbrev N23:=@underlying23
abbrev Z25:=@sizeOf25
abbrev A25:=@isAgg25
abbrev Y25:=@zeroValue25
abbrev U26:=@runUnderlying26
abbrev A29:=@isAgg29
abbrev N29:=@underlying29
abbrev U33:=@runUnderlying33
abbrev A33:=@isAgg33
abbrev U34:=@runUnderlying34
abbrev Z36:=@sizeOf36
abbrev A36:=@isAgg36
abbrev Y36:=@zeroValue36
abbrev U41:=@runUnderlying41
abbrev Z41:=@sizeOf41
abbrev A41:=@isAgg41
abbrev Y41:=@zeroValue41
abbrev N41:=@underlying41
abbrev U43:=@runUnderlying43
abbrev Z43:=@sizeOf43
abbrev Z45:=@sizeOf45
abbrev A45:=@isAgg45
abbrev U47:=@runUnderlying47
abbrev Z51:=@sizeOf51
abbrev Y51:=@zeroValue51
abbrev N51:=@underlying51
abbrev U52:=@runUnderlying52
abbrev A52:=@isAgg52
abbrev N52:=@underlying52
abbrev U54:=@runUnderlying54
abbrev A54:=@isAgg54
abbrev Z56:=@sizeOf56
abbrev A56:=@isAgg56
abbrev Y56:=@zeroValue56
abbrev U60:=@runUnderlying60
abbrev Z60:=@sizeOf60
abbrev A60:=@isAgg60
abbrev N60:=@underlying60
abbrev U66:=@runUnderlying66
abbrev Z66:=@sizeOf66
abbrev A66:=@isAgg66
abbrev Y66:=@zeroValue66
abbrev N66:=@underlying66
abbrev U68:=@runUnderlying68
abbrev Z68:=@sizeOf68
abbrev A68:=@isAgg68
abbrev Y68:=@zeroValue68
abbrev A82:=@isAgg82
abbrev N82:=@underlying82
abbrev A84:=@isAgg84
abbrev A85:=@isAgg85
abbrev A86:=@isAgg86
abbrev N86:=@underlying86
abbrev A87:=@isAgg87
abbrev N87:=@underlying87
abbrev U90:=@runUnderlying90
abbrev U93:=@runUnderlying93
abbrev U95:=@runUnderlying95
abbrev Z95:=@sizeOf95
abbrev Z136:=@sizeOf136
abbrev Y136:=@zeroValue136
abbrev N163:=@underlying163
abbrev N168:=@underlying168
abbrev A169:=@isAgg169
abbrev N169:=@underlying169
abbrev N170:=@underlying170
abbrev U172:=@runUnderlying172
abbrev U175:=@runUnderlying175
abbrev Z175:=@sizeOf175
abbrev A175:=@isAgg175
abbrev Y175:=@zeroValue175
abbrev N175:=@underlying175
abbrev A178:=@isAgg178
abbrev Y178:=@zeroValue178
abbrev N178:=@underlying178
abbrev U184:=@runUnderlying184
abbrev Z184:=@sizeOf184
abbrev Y184:=@zeroValue184
abbrev N184:=@underlying184
abbrev U188:=@runUnderlying188
abbrev Z188:=@sizeOf188
abbrev Y188:=@zeroValue188
abbrev N188:=@underlying188
abbrev A193:=@isAgg193
abbrev N193:=@underlying193
abbrev Z207:=@sizeOf207
abbrev N207:=@underlying207
abbrev U208:=@runUnderlying208
abbrev U212:=@runUnderlying212
abbrev Z212:=@sizeOf212
abbrev Y212:=@zeroValue212
abbrev N212:=@underlying212
abbrev U213:=@runUnderlying213
abbrev U215:=@runUnderlying215
abbrev U234:=@runUnderlying234
abbrev Z236:=@sizeOf236
abbrev Y236:=@zeroValue236
abbrev Z241:=@sizeOf241
abbrev A241:=@isAgg241
abbrev Y241:=@zeroValue241
abbrev U282:=@runUnderlying282
abbrev U300:=@runUnderlying300
abbrev U302:=@runUnderlying302
abbrev U303:=@runUnderlying303
abbrev Z303:=@sizeOf303
abbrev A303:=@isAgg303
abbrev Y303:=@zeroValue303
abbrev U304:=@runUnderlying304
abbrev A305:=@isAgg305
abbrev U309:=@runUnderlying309
abbrev Y309:=@zeroValue309
abbrev N309:=@underlying309
abbrev U311:=@runUnderlying311
abbrev U332:=@runUnderlying332
abbrev U336:=@runUnderlying336
abbrev Z336:=@sizeOf336
abbrev Y336:=@zeroValue336
abbrev N336:=@underlying336
abbrev U345:=@runUnderlying345
abbrev Y345:=@zeroValue345
abbrev N345:=@underlying345
abbrev Z354:=@sizeOf354
abbrev U356:=@runUnderlying356
abbrev Y356:=@zeroValue356
abbrev U373:=@runUnderlying373
abbrev Z373:=@sizeOf373
abbrev Y373:=@zeroValue373
abbrev U374:=@runUnderlying374
abbrev U377:=@runUnderlying377
abbrev F5:=@func5
abbrev C80:=@call80
abbrev C86:=@call86
abbrev C114:=@call114
abbrev C191:=@call191
abbrev C199:=@call199
abbrev C201:=@call201
abbrev C222:=@call222
abbrev C288:=@call288
abbrev C378:=@call378
set_option maxRecDepth 100000 in
instance fo:Fo prog:=Fo.ofList [(25,0,0),(25,1,1),(25,2,2),(25,3,3),(25,4,4),(36,0,0),(36,1,1),(41,0,0),(41,1,1),(41,2,2),(41,3,3),(41,4,4),(41,5,5),(43,0,0),(43,1,1),(43,2,2),(43,3,3),(43,4,4),(43,5,5),(43,6,6),(45,0,0),(45,1,1),(45,2,2),(45,3,3),(45,4,4),(45,5,5),(45,6,6),(47,0,0),(47,1,1),(47,2,2),(49,0,0),(49,1,1),(49,2,2),(49,3,8),(49,4,15),(51,0,0),(51,1,1),(51,3,3),(51,4,4),(51,5,5),(51,6,6),(56,0,0),(56,1,1),(56,2,2),(56,3,3),(56,4,4),(56,5,5),(56,6,6),(56,7,13),(62,0,0),(62,2,7),(66,0,0),(66,1,1),(66,2,2),(66,3,3),(66,4,4),(66,5,5),(66,6,6),(68,0,0),(68,1,7),(68,2,8),(90,0,0),(90,1,1),(90,2,6),(90,3,7),(90,4,21),(90,5,22),(90,6,23),(90,7,24),(90,8,25),(90,9,26),(90,10,27),(90,11,28),(90,12,29),(90,13,30),(116,0,0),(116,1,1),(118,0,0),(118,1,1),(118,2,2),(120,0,0),(120,1,1),(120,2,8),(120,3,9),(120,4,10),(120,5,12),(120,6,15),(120,7,16),(125,0,0),(125,1,5),(125,2,6),(125,3,20),(125,4,21),(125,5,22),(125,6,23),(125,7,24),(125,8,25),(125,9,42),(125,10,43),(125,11,44),(125,12,45),(136,0,0),(136,1,1),(136,2,2),(136,3,3),(161,0,0),(161,1,1),(161,2,2),(161,3,3),(172,0,0),(172,1,1),(172,2,2),(172,3,3),(172,4,4),(172,5,11),(172,6,12),(172,7,13),(172,8,14),(175,0,0),(175,1,1),(175,2,2),(175,3,3),(180,0,0),(180,1,1),(180,2,2),(180,3,3),(182,0,0),(182,1,1),(184,0,0),(195,0,0),(195,1,1),(206,0,0),(210,0,0),(210,1,1),(212,0,0),(212,1,1),(215,0,0),(215,1,1),(215,2,2),(236,0,0),(236,1,1),(239,0,0),(239,1,1),(239,2,2),(239,3,3),(239,4,4),(239,5,5),(241,0,0),(241,1,1),(241,2,2),(241,3,3),(241,4,4),(261,0,0),(261,1,1),(273,0,0),(273,1,1),(273,2,2),(273,3,3),(292,0,0),(294,0,0),(294,1,1),(294,2,2),(296,0,0),(296,1,1),(296,2,2),(296,3,3),(302,0,0),(302,1,1),(309,0,0),(309,1,1),(311,0,0),(320,0,0),(320,1,1),(336,0,0),(336,3,3),(336,4,4),(345,0,0),(373,0,0),(373,1,1)] (List.forall_mem_cons.2 ⟨⟨_,_,_,runUnderlying25,rfl,sizeOf3,rfl,rfl⟩,List.forall_mem_cons.2 ⟨⟨_,_,_,runUnderlying25,rfl,sizeOf3,rfl,rfl⟩,List.forall_mem_cons.2 ⟨⟨_,_,_,runUnderlying25,rfl,sizeOf3,rfl,rfl⟩,List.forall_mem_cons.2 ⟨⟨_,_,_,runUnderlying25,rfl,sizeOf22,rfl,rfl⟩,List.forall_mem_cons.2 ⟨⟨_,_,_,runUnderlying25,rfl,sizeOf23,rfl,rfl⟩,List.forall_mem_cons.2 ⟨⟨_,_,_,runUnderlying36,rfl,sizeOf33,rfl,rfl⟩,List.forall_mem_cons.2 ⟨⟨_,_,_,runUnderlying36,rfl,sizeOf34,rfl,rfl⟩,List.forall_mem_cons.2 ⟨⟨_,_,_,runUnderlying41,rfl,sizeOf3,rfl,rfl⟩,List.forall_mem_cons.2 ⟨⟨_,_,_,runUnderlying41,rfl,sizeOf3,rfl,rfl⟩,List.forall_mem_cons.2 ⟨⟨_,_,_,runUnderlying41,rfl,sizeOf3,rfl,rfl⟩,List.forall_mem_cons.2 ⟨⟨_,_,_,runUnderlying41,rfl,sizeOf3,rfl,rfl⟩,List.forall_mem_cons.2 ⟨⟨_,_,_,runUnderlying41,rfl,sizeOf3,rfl,rfl⟩,List.forall_mem_cons.2 ⟨⟨_,_,_,runUnderlying41,rfl,sizeOf3,rfl,rfl⟩,List.forall_mem_cons.2 ⟨⟨_,_,_,runUnderlying43,rfl,sizeOf3,rfl,rfl⟩,List.forall_mem_cons.2 ⟨⟨_,_,_,runUnderlying43,rfl,sizeOf3,rfl,rfl⟩,List.forall_mem_cons.2 ⟨⟨_,_,_,runUnderlying43,rfl,sizeOf3,rfl,rfl⟩,List.forall_mem_cons.2 ⟨⟨_,_,_,runUnderlying43,rfl,sizeOf3,rfl,rfl⟩,List.forall_mem_cons.2 ⟨⟨_,_,_,runUnderlying43,rfl,sizeOf3,rfl,rfl⟩,List.forall_mem_cons.2 ⟨⟨_,_,_,runUnderlying43,rfl,sizeOf3,rfl,rfl⟩,List.forall_mem_cons.2 ⟨⟨_,_,_,runUnderlying43,rfl,sizeOf3,rfl,rfl⟩,List.forall_mem_cons.2 ⟨⟨_,_,_,runUnderlying45,rfl,sizeOf3,rfl,rfl⟩,List.forall_mem_cons.2 ⟨⟨_,_,_,runUnderlying45,rfl,sizeOf3,rfl,rfl⟩,List.forall_mem_cons.2 ⟨⟨_,_,_,runUnderlying45,rfl,sizeOf3,rfl,rfl⟩,List.forall_mem_cons.2 ⟨⟨_,_,_,runUnderlying45,rfl,sizeOf3,rfl,rfl⟩,List.forall_mem_cons.2 ⟨⟨_,_,_,runUnderlying45,rfl,sizeOf3,rfl,rfl⟩,List.forall_mem_cons.2 ⟨⟨_,_,_,runUnderlying45,rfl,sizeOf3,rfl,rfl⟩,List.forall_mem_cons.2 ⟨⟨_,_,_,runUnderlying45,rfl,sizeOf3,rfl,rfl⟩,List.forall_mem_cons.2 ⟨⟨_,_,_,runUnderlying47,rfl,sizeOf3,rfl,rfl⟩,List.forall_mem_cons.2 ⟨⟨_,_,_,runUnderlying47,rfl,sizeOf3,rfl,rfl⟩,List.forall_mem_cons.2 ⟨⟨_,_,_,runUnderlying47,rfl,sizeOf45,rfl,rfl⟩,List.forall_mem_cons.2 ⟨⟨_,_,_,runUnderlying49,rfl,sizeOf3,rfl,rfl⟩,List.forall_mem_cons.2 ⟨⟨_,_,_,runUnderlying49,rfl,sizeOf3,rfl,rfl⟩,List.forall_mem_cons.2 ⟨⟨_,_,_,runUnderlying49,rfl,sizeOf41,rfl,rfl⟩,List.forall_mem_cons.2 ⟨⟨_,_,_,runUnderlying49,rfl,sizeOf43,rfl,rfl⟩,List.forall_mem_cons.2 ⟨⟨_,_,_,runUnderlying49,rfl,sizeOf47,rfl,rfl⟩,List.forall_mem_cons.2 ⟨⟨_,_,_,runUnderlying51,rfl,sizeOf3,rfl,rfl⟩,List.forall_mem_cons.2 ⟨⟨_,_,_,runUnderlying51,rfl,sizeOf3,rfl,rfl⟩,List.forall_mem_cons.2 ⟨⟨_,_,_,runUnderlying51,rfl,sizeOf3,rfl,rfl⟩,List.forall_mem_cons.2 ⟨⟨_,_,_,runUnderlying51,rfl,sizeOf3,rfl,rfl⟩,List.forall_mem_cons.2 ⟨⟨_,_,_,runUnderlying51,rfl,sizeOf3,rfl,rfl⟩,List.forall_mem_cons.2 ⟨⟨_,_,_,runUnderlying51,rfl,sizeOf3,rfl,rfl⟩,List.forall_mem_cons.2 ⟨⟨_,_,_,runUnderlying56,rfl,sizeOf3,rfl,rfl⟩,List.forall_mem_cons.2 ⟨⟨_,_,_,runUnderlying56,rfl,sizeOf3,rfl,rfl⟩,List.forall_mem_cons.2 ⟨⟨_,_,_,runUnderlying56,rfl,sizeOf3,rfl,rfl⟩,List.forall_mem_cons.2 ⟨⟨_,_,_,runUnderlying56,rfl,sizeOf3,rfl,rfl⟩,List.forall_mem_cons.2 ⟨⟨_,_,_,runUnderlying56,rfl,sizeOf3,rfl,rfl⟩,List.forall_mem_cons.2 ⟨⟨_,_,_,runUnderlying56,rfl,sizeOf3,rfl,rfl⟩,List.forall_mem_cons.2 ⟨⟨_,_,_,runUnderlying56,rfl,sizeOf45,rfl,rfl⟩,List.forall_mem_cons.2 ⟨⟨_,_,_,runUnderlying56,rfl,sizeOf54,rfl,rfl⟩,List.forall_mem_cons.2 ⟨⟨_,_,_,runUnderlying62,rfl,sizeOf3,rfl,rfl⟩,List.forall_mem_cons.2 ⟨⟨_,_,_,runUnderlying62,rfl,sizeOf43,rfl,rfl⟩,List.forall_mem_cons.2 ⟨⟨_,_,_,runUnderlying66,rfl,sizeOf3,rfl,rfl⟩,List.forall_mem_cons.2 ⟨⟨_,_,_,runUnderlying66,rfl,sizeOf3,rfl,rfl⟩,List.forall_mem_cons.2 ⟨⟨_,_,_,runUnderlying66,rfl,sizeOf3,rfl,rfl⟩,List.forall_mem_cons.2 ⟨⟨_,_,_,runUnderlying66,rfl,sizeOf3,rfl,rfl⟩,List.forall_mem_cons.2 ⟨⟨_,_,_,runUnderlying66,rfl,sizeOf3,rfl,rfl⟩,List.forall_mem_cons.2 ⟨⟨_,_,_,runUnderlying66,rfl,sizeOf3,rfl,rfl⟩,List.forall_mem_cons.2 ⟨⟨_,_,_,runUnderlying66,rfl,sizeOf3,rfl,rfl⟩,List.forall_mem_cons.2 ⟨⟨_,_,_,runUnderlying68,rfl,sizeOf66,rfl,rfl⟩,List.forall_mem_cons.2 ⟨⟨_,_,_,runUnderlying68,rfl,sizeOf3,rfl,rfl⟩,List.forall_mem_cons.2 ⟨⟨_,_,_,runUnderlying68,rfl,sizeOf60,rfl,rfl⟩,List.forall_mem_cons.2 ⟨⟨_,_,_,runUnderlying90,rfl,sizeOf82,rfl,rfl⟩,List.forall_mem_cons.2 ⟨⟨_,_,_,runUnderlying90,rfl,sizeOf25,rfl,rfl⟩,List.forall_mem_cons.2 ⟨⟨_,_,_,runUnderlying90,rfl,sizeOf3,rfl,rfl⟩,List.forall_mem_cons.2 ⟨⟨_,_,_,runUnderlying90,rfl,sizeOf56,rfl,rfl⟩,List.forall_mem_cons.2 ⟨⟨_,_,_,runUnderlying90,rfl,sizeOf3,rfl,rfl⟩,List.forall_mem_cons.2 ⟨⟨_,_,_,runUnderlying90,rfl,sizeOf3,rfl,rfl⟩,List.forall_mem_cons.2 ⟨⟨_,_,_,runUnderlying90,rfl,sizeOf3,rfl,rfl⟩,List.forall_mem_cons.2 ⟨⟨_,_,_,runUnderlying90,rfl,sizeOf3,rfl,rfl⟩,List.forall_mem_cons.2 ⟨⟨_,_,_,runUnderlying90,rfl,sizeOf83,rfl,rfl⟩,List.forall_mem_cons.2 ⟨⟨_,_,_,runUnderlying90,rfl,sizeOf84,rfl,rfl⟩,List.forall_mem_cons.2 ⟨⟨_,_,_,runUnderlying90,rfl,sizeOf85,rfl,rfl⟩,List.forall_mem_cons.2 ⟨⟨_,_,_,runUnderlying90,rfl,sizeOf86,rfl,rfl⟩,List.forall_mem_cons.2 ⟨⟨_,_,_,runUnderlying90,rfl,sizeOf87,rfl,rfl⟩,List.forall_mem_cons.2 ⟨⟨_,_,_,runUnderlying90,rfl,sizeOf88,rfl,rfl⟩,List.forall_mem_cons.2 ⟨⟨_,_,_,runUnderlying116,rfl,sizeOf3,rfl,rfl⟩,List.forall_mem_cons.2 ⟨⟨_,_,_,runUnderlying116,rfl,sizeOf3,rfl,rfl⟩,List.forall_mem_cons.2 ⟨⟨_,_,_,runUnderlying118,rfl,sizeOf3,rfl,rfl⟩,List.forall_mem_cons.2 ⟨⟨_,_,_,runUnderlying118,rfl,sizeOf3,rfl,rfl⟩,List.forall_mem_cons.2 ⟨⟨_,_,_,runUnderlying118,rfl,sizeOf3,rfl,rfl⟩,List.forall_mem_cons.2 ⟨⟨_,_,_,runUnderlying120,rfl,sizeOf3,rfl,rfl⟩,List.forall_mem_cons.2 ⟨⟨_,_,_,runUnderlying120,rfl,sizeOf45,rfl,rfl⟩,List.forall_mem_cons.2 ⟨⟨_,_,_,runUnderlying120,rfl,sizeOf60,rfl,rfl⟩,List.forall_mem_cons.2 ⟨⟨_,_,_,runUnderlying120,rfl,sizeOf60,rfl,rfl⟩,List.forall_mem_cons.2 ⟨⟨_,_,_,runUnderlying120,rfl,sizeOf116,rfl,rfl⟩,List.forall_mem_cons.2 ⟨⟨_,_,_,runUnderlying120,rfl,sizeOf118,rfl,rfl⟩,List.forall_mem_cons.2 ⟨⟨_,_,_,runUnderlying120,rfl,sizeOf3,rfl,rfl⟩,List.forall_mem_cons.2 ⟨⟨_,_,_,runUnderlying120,rfl,sizeOf3,rfl,rfl⟩,List.forall_mem_cons.2 ⟨⟨_,_,_,runUnderlying125,rfl,sizeOf25,rfl,rfl⟩,List.forall_mem_cons.2 ⟨⟨_,_,_,runUnderlying125,rfl,sizeOf3,rfl,rfl⟩,List.forall_mem_cons.2 ⟨⟨_,_,_,runUnderlying125,rfl,sizeOf56,rfl,rfl⟩,List.forall_mem_cons.2 ⟨⟨_,_,_,runUnderlying125,rfl,sizeOf3,rfl,rfl⟩,List.forall_mem_cons.2 ⟨⟨_,_,_,runUnderlying125,rfl,sizeOf3,rfl,rfl⟩,List.forall_mem_cons.2 ⟨⟨_,_,_,runUnderlying125,rfl,sizeOf3,rfl,rfl⟩,List.forall_mem_cons.2 ⟨⟨_,_,_,runUnderlying125,rfl,sizeOf3,rfl,rfl⟩,List.forall_mem_cons.2 ⟨⟨_,_,_,runUnderlying125,rfl,sizeOf60,rfl,rfl⟩,List.forall_mem_cons.2 ⟨⟨_,_,_,runUnderlying125,rfl,sizeOf120,rfl,rfl⟩,List.forall_mem_cons.2 ⟨⟨_,_,_,runUnderlying125,rfl,sizeOf52,rfl,rfl⟩,List.forall_mem_cons.2 ⟨⟨_,_,_,runUnderlying125,rfl,sizeOf57,rfl,rfl⟩,List.forall_mem_cons.2 ⟨⟨_,_,_,runUnderlying125,rfl,sizeOf123,rfl,rfl⟩,List.forall_mem_cons.2 ⟨⟨_,_,_,runUnderlying125,rfl,sizeOf71,rfl,rfl⟩,List.forall_mem_cons.2 ⟨⟨_,_,_,runUnderlying136,rfl,sizeOf3,rfl,rfl⟩,List.forall_mem_cons.2 ⟨⟨_,_,_,runUnderlying136,rfl,sizeOf3,rfl,rfl⟩,List.forall_mem_cons.2 ⟨⟨_,_,_,runUnderlying136,rfl,sizeOf3,rfl,rfl⟩,List.forall_mem_cons.2 ⟨⟨_,_,_,runUnderlying136,rfl,sizeOf3,rfl,rfl⟩,List.forall_mem_cons.2 ⟨⟨_,_,_,runUnderlying161,rfl,sizeOf3,rfl,rfl⟩,List.forall_mem_cons.2 ⟨⟨_,_,_,runUnderlying161,rfl,sizeOf3,rfl,rfl⟩,List.forall_mem_cons.2 ⟨⟨_,_,_,runUnderlying161,rfl,sizeOf3,rfl,rfl⟩,List.forall_mem_cons.2 ⟨⟨_,_,_,runUnderlying161,rfl,sizeOf3,rfl,rfl⟩,List.forall_mem_cons.2 ⟨⟨_,_,_,runUnderlying172,rfl,sizeOf167,rfl,rfl⟩,List.forall_mem_cons.2 ⟨⟨_,_,_,runUnderlying172,rfl,sizeOf168,rfl,rfl⟩,List.forall_mem_cons.2 ⟨⟨_,_,_,runUnderlying172,rfl,sizeOf3,rfl,rfl⟩,List.forall_mem_cons.2 ⟨⟨_,_,_,runUnderlying172,rfl,sizeOf3,rfl,rfl⟩,List.forall_mem_cons.2 ⟨⟨_,_,_,runUnderlying172,rfl,sizeOf45,rfl,rfl⟩,List.forall_mem_cons.2 ⟨⟨_,_,_,runUnderlying172,rfl,sizeOf169,rfl,rfl⟩,List.forall_mem_cons.2 ⟨⟨_,_,_,runUnderlying172,rfl,sizeOf170,rfl,rfl⟩,List.forall_mem_cons.2 ⟨⟨_,_,_,runUnderlying172,rfl,sizeOf3,rfl,rfl⟩,List.forall_mem_cons.2 ⟨⟨_,_,_,runUnderlying172,rfl,sizeOf3,rfl,rfl⟩,List.forall_mem_cons.2 ⟨⟨_,_,_,runUnderlying175,rfl,sizeOf3,rfl,rfl⟩,List.forall_mem_cons.2 ⟨⟨_,_,_,runUnderlying175,rfl,sizeOf3,rfl,rfl⟩,List.forall_mem_cons.2 ⟨⟨_,_,_,runUnderlying175,rfl,sizeOf3,rfl,rfl⟩,List.forall_mem_cons.2 ⟨⟨_,_,_,runUnderlying175,rfl,sizeOf3,rfl,rfl⟩,List.forall_mem_cons.2 ⟨⟨_,_,_,runUnderlying180,rfl,sizeOf60,rfl,rfl⟩,List.forall_mem_cons.2 ⟨⟨_,_,_,runUnderlying180,rfl,sizeOf3,rfl,rfl⟩,List.forall_mem_cons.2 ⟨⟨_,_,_,runUnderlying180,rfl,sizeOf3,rfl,rfl⟩,List.forall_mem_cons.2 ⟨⟨_,_,_,runUnderlying180,rfl,sizeOf178,rfl,rfl⟩,List.forall_mem_cons.2 ⟨⟨_,_,_,runUnderlying182,rfl,sizeOf3,rfl,rfl⟩,List.forall_mem_cons.2 ⟨⟨_,_,_,runUnderlying182,rfl,sizeOf3,rfl,rfl⟩,List.forall_mem_cons.2 ⟨⟨_,_,_,runUnderlying184,rfl,sizeOf182,rfl,rfl⟩,List.forall_mem_cons.2 ⟨⟨_,_,_,runUnderlying195,rfl,sizeOf178,rfl,rfl⟩,List.forall_mem_cons.2 ⟨⟨_,_,_,runUnderlying195,rfl,sizeOf193,rfl,rfl⟩,List.forall_mem_cons.2 ⟨⟨_,_,_,runUnderlying206,rfl,sizeOf163,rfl,rfl⟩,List.forall_mem_cons.2 ⟨⟨_,_,_,runUnderlying210,rfl,sizeOf3,rfl,rfl⟩,List.forall_mem_cons.2 ⟨⟨_,_,_,runUnderlying210,rfl,sizeOf208,rfl,rfl⟩,List.forall_mem_cons.2 ⟨⟨_,_,_,runUnderlying212,rfl,sizeOf4,rfl,rfl⟩,List.forall_mem_cons.2 ⟨⟨_,_,_,runUnderlying212,rfl,sizeOf175,rfl,rfl⟩,List.forall_mem_cons.2 ⟨⟨_,_,_,runUnderlying215,rfl,sizeOf4,rfl,rfl⟩,List.forall_mem_cons.2 ⟨⟨_,_,_,runUnderlying215,rfl,sizeOf3,rfl,rfl⟩,List.forall_mem_cons.2 ⟨⟨_,_,_,runUnderlying215,rfl,sizeOf213,rfl,rfl⟩,List.forall_mem_cons.2 ⟨⟨_,_,_,runUnderlying236,rfl,sizeOf3,rfl,rfl⟩,List.forall_mem_cons.2 ⟨⟨_,_,_,runUnderlying236,rfl,sizeOf234,rfl,rfl⟩,List.forall_mem_cons.2 ⟨⟨_,_,_,runUnderlying239,rfl,sizeOf3,rfl,rfl⟩,List.forall_mem_cons.2 ⟨⟨_,_,_,runUnderlying239,rfl,sizeOf3,rfl,rfl⟩,List.forall_mem_cons.2 ⟨⟨_,_,_,runUnderlying239,rfl,sizeOf3,rfl,rfl⟩,List.forall_mem_cons.2 ⟨⟨_,_,_,runUnderlying239,rfl,sizeOf3,rfl,rfl⟩,List.forall_mem_cons.2 ⟨⟨_,_,_,runUnderlying239,rfl,sizeOf3,rfl,rfl⟩,List.forall_mem_cons.2 ⟨⟨_,_,_,runUnderlying239,rfl,sizeOf71,rfl,rfl⟩,List.forall_mem_cons.2 ⟨⟨_,_,_,runUnderlying241,rfl,sizeOf3,rfl,rfl⟩,List.forall_mem_cons.2 ⟨⟨_,_,_,runUnderlying241,rfl,sizeOf3,rfl,rfl⟩,List.forall_mem_cons.2 ⟨⟨_,_,_,runUnderlying241,rfl,sizeOf3,rfl,rfl⟩,List.forall_mem_cons.2 ⟨⟨_,_,_,runUnderlying241,rfl,sizeOf3,rfl,rfl⟩,List.forall_mem_cons.2 ⟨⟨_,_,_,runUnderlying241,rfl,sizeOf4,rfl,rfl⟩,List.forall_mem_cons.2 ⟨⟨_,_,_,runUnderlying261,rfl,sizeOf29,rfl,rfl⟩,List.forall_mem_cons.2 ⟨⟨_,_,_,runUnderlying261,rfl,sizeOf36,rfl,rfl⟩,List.forall_mem_cons.2 ⟨⟨_,_,_,runUnderlying273,rfl,sizeOf3,rfl,rfl⟩,List.forall_mem_cons.2 ⟨⟨_,_,_,runUnderlying273,rfl,sizeOf3,rfl,rfl⟩,List.forall_mem_cons.2 ⟨⟨_,_,_,runUnderlying273,rfl,sizeOf3,rfl,rfl⟩,List.forall_mem_cons.2 ⟨⟨_,_,_,runUnderlying273,rfl,sizeOf3,rfl,rfl⟩,List.forall_mem_cons.2 ⟨⟨_,_,_,runUnderlying292,rfl,sizeOf178,rfl,rfl⟩,List.forall_mem_cons.2 ⟨⟨_,_,_,runUnderlying294,rfl,sizeOf292,rfl,rfl⟩,List.forall_mem_cons.2 ⟨⟨_,_,_,runUnderlying294,rfl,sizeOf3,rfl,rfl⟩,List.forall_mem_cons.2 ⟨⟨_,_,_,runUnderlying294,rfl,sizeOf52,rfl,rfl⟩,List.forall_mem_cons.2 ⟨⟨_,_,_,runUnderlying296,rfl,sizeOf4,rfl,rfl⟩,List.forall_mem_cons.2 ⟨⟨_,_,_,runUnderlying296,rfl,sizeOf3,rfl,rfl⟩,List.forall_mem_cons.2 ⟨⟨_,_,_,runUnderlying296,rfl,sizeOf3,rfl,rfl⟩,List.forall_mem_cons.2 ⟨⟨_,_,_,runUnderlying296,rfl,sizeOf3,rfl,rfl⟩,List.forall_mem_cons.2 ⟨⟨_,_,_,runUnderlying302,rfl,sizeOf3,rfl,rfl⟩,List.forall_mem_cons.2 ⟨⟨_,_,_,runUnderlying302,rfl,sizeOf300,rfl,rfl⟩,List.forall_mem_cons.2 ⟨⟨_,_,_,runUnderlying309,rfl,sizeOf3,rfl,rfl⟩,List.forall_mem_cons.2 ⟨⟨_,_,_,runUnderlying309,rfl,sizeOf3,rfl,rfl⟩,List.forall_mem_cons.2 ⟨⟨_,_,_,runUnderlying311,rfl,sizeOf95,rfl,rfl⟩,List.forall_mem_cons.2 ⟨⟨_,_,_,runUnderlying320,rfl,sizeOf3,rfl,rfl⟩,List.forall_mem_cons.2 ⟨⟨_,_,_,runUnderlying320,rfl,sizeOf3,rfl,rfl⟩,List.forall_mem_cons.2 ⟨⟨_,_,_,runUnderlying336,rfl,sizeOf305,rfl,rfl⟩,List.forall_mem_cons.2 ⟨⟨_,_,_,runUnderlying336,rfl,sizeOf3,rfl,rfl⟩,List.forall_mem_cons.2 ⟨⟨_,_,_,runUnderlying336,rfl,sizeOf3,rfl,rfl⟩,List.forall_mem_cons.2 ⟨⟨_,_,_,runUnderlying345,rfl,sizeOf68,rfl,rfl⟩,List.forall_mem_cons.2 ⟨⟨_,_,_,runUnderlying373,rfl,sizeOf3,rfl,rfl⟩,List.forall_mem_cons.2 ⟨⟨_,_,_,runUnderlying373,rfl,sizeOf28,rfl,rfl⟩,List.forall_mem_nil _⟩⟩⟩⟩⟩⟩⟩⟩⟩⟩⟩⟩⟩⟩⟩⟩⟩⟩⟩⟩⟩⟩⟩⟩⟩⟩⟩⟩⟩⟩⟩⟩⟩⟩⟩⟩⟩⟩⟩⟩⟩⟩⟩⟩⟩⟩⟩⟩⟩⟩⟩⟩⟩⟩⟩⟩⟩⟩⟩⟩⟩⟩⟩⟩⟩⟩⟩⟩⟩⟩⟩⟩⟩⟩⟩⟩⟩⟩⟩⟩⟩⟩⟩⟩⟩⟩⟩⟩⟩⟩⟩⟩⟩⟩⟩⟩⟩⟩⟩⟩⟩⟩⟩⟩⟩⟩⟩⟩⟩⟩⟩⟩⟩⟩⟩⟩⟩⟩⟩⟩⟩⟩⟩⟩⟩⟩⟩⟩⟩⟩⟩⟩⟩⟩⟩⟩⟩⟩⟩⟩⟩⟩⟩⟩⟩⟩⟩⟩⟩⟩⟩⟩⟩⟩⟩⟩⟩⟩⟩⟩⟩⟩⟩⟩⟩⟩⟩⟩⟩⟩⟩⟩⟩⟩⟩⟩⟩⟩⟩)
end Go.Proofs.YtohjlkjhpibkmaaGreatDoor
namespace Go.Proofs.YtohjlkjhpibkmaaGreatDoor
open Go Go.LK
set_option linter.unusedSimpArgs false
theorem Tryz.mixed:Tryz.prog.follows .mixedOrders=true:=by kernel_rfl
theorem info3:Tryz.prog.info? 3=some Tryz.t3∧Tryz.t3.zero=some (.int .i64 0)∧Tryz.t3.size=1∧Tryz.t3.bytes=8:=⟨by kernel_rfl,by kernel_rfl,by kernel_rfl,by kernel_rfl⟩
theorem info5:Tryz.prog.info? 5=some Tryz.t5∧Tryz.t5.zero=some (.int .u8 0)∧Tryz.t5.size=1∧Tryz.t5.bytes=1:=⟨by kernel_rfl,by kernel_rfl,by kernel_rfl,by kernel_rfl⟩
theorem info51:Tryz.prog.info? 51=some Tryz.t51∧Tryz.t51.zero=some (.agg #[.int .i64 0,.int .i64 0,.int .i64 0,.int .i64 0,.int .i64 0,.int .i64 0,.int .i64 0])∧Tryz.t51.size=7∧Tryz.t51.bytes=56:=⟨by kernel_rfl,by kernel_rfl,by kernel_rfl,by kernel_rfl⟩
theorem info56:Tryz.prog.info? 56=some Tryz.t56∧Tryz.t56.zero=some (.agg #[.int .i64 0,.int .i64 0,.int .i64 0,.int .i64 0,.int .i64 0,.int .i64 0,.int .i64 0,.int .i64 0,.int .i64 0,.int .i64 0,.int .i64 0,.int .i64 0,.int .i64 0,Value.slice none 0 0])∧Tryz.t56.size=14∧Tryz.t56.bytes=128:=⟨by kernel_rfl,by kernel_rfl,by kernel_rfl,by kernel_rfl⟩
theorem info62:Tryz.prog.info? 62=some Tryz.t62∧Tryz.t62.zero=some (.agg #[.int .i64 0,.int .i64 0,.int .i64 0,.int .i64 0,.int .i64 0,.int .i64 0,.int .i64 0,.int .i64 0,.int .i64 0,.int .i64 0,.int .i64 0,.int .i64 0,.int .i64 0,.int .i64 0,.int .i64 0,.int .i64 0,.int .i64 0,.int .i64 0,.int .i64 0,.int .i64 0,.int .i64 0,.int .i64 0,.int .i64 0])∧Tryz.t62.size=23∧Tryz.t62.bytes=184:=⟨by kernel_rfl,by kernel_rfl,by kernel_rfl,by kernel_rfl⟩
theorem info66:Tryz.prog.info? 66=some Tryz.t66∧Tryz.t66.zero=some (.agg #[.int .i64 0,.int .i64 0,.int .i64 0,.int .i64 0,.int .i64 0,.int .i64 0,.int .i64 0])∧Tryz.t66.size=7∧Tryz.t66.bytes=56:=⟨by kernel_rfl,by kernel_rfl,by kernel_rfl,by kernel_rfl⟩
theorem info68:Tryz.prog.info? 68=some Tryz.t68∧Tryz.t68.zero=some (.agg #[.int .i64 0,.int .i64 0,.int .i64 0,.int .i64 0,.int .i64 0,.int .i64 0,.int .i64 0,.int .i64 0,Value.slice none 0 0])∧Tryz.t68.size=9∧Tryz.t68.bytes=88:=⟨by kernel_rfl,by kernel_rfl,by kernel_rfl,by kernel_rfl⟩
theorem info136:Tryz.prog.info? 136=some Tryz.t136∧Tryz.t136.zero=some (.agg #[.int .i64 0,.int .i64 0,.int .i64 0,.int .i64 0])∧Tryz.t136.size=4∧Tryz.t136.bytes=32:=⟨by kernel_rfl,by kernel_rfl,by kernel_rfl,by kernel_rfl⟩
theorem info241:Tryz.prog.info? 241=some Tryz.t241∧Tryz.t241.zero=some (.agg #[.int .i64 0,.int .i64 0,.int .i64 0,.int .i64 0,.bool false])∧Tryz.t241.size=5∧Tryz.t241.bytes=40:=⟨by kernel_rfl,by kernel_rfl,by kernel_rfl,by kernel_rfl⟩
theorem places25 {fs:Array Field} (h:Tryz.prog.underlying 25=some (.struct fs)):∀ w,(fs.mapM (m:=Sem) fun f=>Prod.mk f.offset <$> sizeOf f.type).run Tryz.prog w=.ok #[(0,1),(1,1),(2,1),(3,1),(4,1)] w:=by
  rw [Tryz.underlying25] at h
  cases h
  intro w
  simp [Tryz.sizeOf22,Tryz.sizeOf23,Tryz.sizeOf3]
theorem places36 {fs:Array Field} (h:Tryz.prog.underlying 36=some (.struct fs)):∀ w,(fs.mapM (m:=Sem) fun f=>Prod.mk f.offset <$> sizeOf f.type).run Tryz.prog w=.ok #[(0,1),(1,1)] w:=by
  rw [Tryz.underlying36] at h
  cases h
  intro w
  simp [Tryz.sizeOf33,Tryz.sizeOf34]
theorem places41 {fs:Array Field} (h:Tryz.prog.underlying 41=some (.struct fs)):∀ w,(fs.mapM (m:=Sem) fun f=>Prod.mk f.offset <$> sizeOf f.type).run Tryz.prog w=.ok #[(0,1),(1,1),(2,1),(3,1),(4,1),(5,1)] w:=by
  rw [Tryz.underlying41] at h
  cases h
  intro w
  simp [Tryz.sizeOf3]
theorem places43 {fs:Array Field} (h:Tryz.prog.underlying 43=some (.struct fs)):∀ w,(fs.mapM (m:=Sem) fun f=>Prod.mk f.offset <$> sizeOf f.type).run Tryz.prog w=.ok #[(0,1),(1,1),(2,1),(3,1),(4,1),(5,1),(6,1)] w:=by
  rw [Tryz.underlying43] at h
  cases h
  intro w
  simp [Tryz.sizeOf3]
theorem places45 {fs:Array Field} (h:Tryz.prog.underlying 45=some (.struct fs)):∀ w,(fs.mapM (m:=Sem) fun f=>Prod.mk f.offset <$> sizeOf f.type).run Tryz.prog w=.ok #[(0,1),(1,1),(2,1),(3,1),(4,1),(5,1),(6,1)] w:=by
  rw [Tryz.underlying45] at h
  cases h
  intro w
  simp [Tryz.sizeOf3]
theorem places51 {fs:Array Field} (h:Tryz.prog.underlying 51=some (.struct fs)):∀ w,(fs.mapM (m:=Sem) fun f=>Prod.mk f.offset <$> sizeOf f.type).run Tryz.prog w=.ok #[(0,1),(1,1),(2,1),(3,1),(4,1),(5,1),(6,1)] w:=by
  rw [Tryz.underlying51] at h
  cases h
  intro w
  simp [Tryz.sizeOf3]
theorem places56 {fs:Array Field} (h:Tryz.prog.underlying 56=some (.struct fs)):∀ w,(fs.mapM (m:=Sem) fun f=>Prod.mk f.offset <$> sizeOf f.type).run Tryz.prog w=.ok #[(0,1),(1,1),(2,1),(3,1),(4,1),(5,1),(6,7),(13,1)] w:=by
  rw [Tryz.underlying56] at h
  cases h
  intro w
  simp [Tryz.sizeOf3,Tryz.sizeOf45,Tryz.sizeOf54]
theorem places62 {fs:Array Field} (h:Tryz.prog.underlying 62=some (.struct fs)):∀ w,(fs.mapM (m:=Sem) fun f=>Prod.mk f.offset <$> sizeOf f.type).run Tryz.prog w=.ok #[(0,1),(1,6),(7,7),(14,9)] w:=by
  rw [Tryz.underlying62] at h
  cases h
  intro w
  simp [Tryz.sizeOf3,Tryz.sizeOf41,Tryz.sizeOf43,Tryz.sizeOf47]
theorem places66 {fs:Array Field} (h:Tryz.prog.underlying 66=some (.struct fs)):∀ w,(fs.mapM (m:=Sem) fun f=>Prod.mk f.offset <$> sizeOf f.type).run Tryz.prog w=.ok #[(0,1),(1,1),(2,1),(3,1),(4,1),(5,1),(6,1)] w:=by
  rw [Tryz.underlying66] at h
  cases h
  intro w
  simp [Tryz.sizeOf3]
theorem places68 {fs:Array Field} (h:Tryz.prog.underlying 68=some (.struct fs)):∀ w,(fs.mapM (m:=Sem) fun f=>Prod.mk f.offset <$> sizeOf f.type).run Tryz.prog w=.ok #[(0,7),(7,1),(8,1)] w:=by
  rw [Tryz.underlying68] at h
  cases h
  intro w
  simp [Tryz.sizeOf3,Tryz.sizeOf60,Tryz.sizeOf66]
theorem places90 {fs:Array Field} (h:Tryz.prog.underlying 90=some (.struct fs)):∀ w,(fs.mapM (m:=Sem) fun f=>Prod.mk f.offset <$> sizeOf f.type).run Tryz.prog w=.ok #[(0,1),(1,5),(6,1),(7,14),(21,1),(22,1),(23,1),(24,1),(25,1),(26,1),(27,1),(28,1),(29,1),(30,1)] w:=by
  rw [Tryz.underlying90] at h
  cases h
  intro w
  simp [Tryz.sizeOf25,Tryz.sizeOf3,Tryz.sizeOf56,Tryz.sizeOf82,Tryz.sizeOf83,Tryz.sizeOf84,Tryz.sizeOf85,Tryz.sizeOf86,Tryz.sizeOf87,Tryz.sizeOf88]
theorem places136 {fs:Array Field} (h:Tryz.prog.underlying 136=some (.struct fs)):∀ w,(fs.mapM (m:=Sem) fun f=>Prod.mk f.offset <$> sizeOf f.type).run Tryz.prog w=.ok #[(0,1),(1,1),(2,1),(3,1)] w:=by
  rw [Tryz.underlying136] at h
  cases h
  intro w
  simp [Tryz.sizeOf3]
theorem places161 {fs:Array Field} (h:Tryz.prog.underlying 161=some (.struct fs)):∀ w,(fs.mapM (m:=Sem) fun f=>Prod.mk f.offset <$> sizeOf f.type).run Tryz.prog w=.ok #[(0,1),(1,1),(2,1),(3,1),(4,1),(5,1)] w:=by
  rw [Tryz.underlying161] at h
  cases h
  intro w
  simp [Tryz.sizeOf3,Tryz.sizeOf4]
theorem places172 {fs:Array Field} (h:Tryz.prog.underlying 172=some (.struct fs)):∀ w,(fs.mapM (m:=Sem) fun f=>Prod.mk f.offset <$> sizeOf f.type).run Tryz.prog w=.ok #[(0,1),(1,1),(2,1),(3,1),(4,7),(11,1),(12,1),(13,1),(14,1)] w:=by
  rw [Tryz.underlying172] at h
  cases h
  intro w
  simp [Tryz.sizeOf167,Tryz.sizeOf168,Tryz.sizeOf169,Tryz.sizeOf170,Tryz.sizeOf3,Tryz.sizeOf45]
theorem places175 {fs:Array Field} (h:Tryz.prog.underlying 175=some (.struct fs)):∀ w,(fs.mapM (m:=Sem) fun f=>Prod.mk f.offset <$> sizeOf f.type).run Tryz.prog w=.ok #[(0,1),(1,1),(2,1),(3,1)] w:=by
  rw [Tryz.underlying175] at h
  cases h
  intro w
  simp [Tryz.sizeOf3]
theorem places180 {fs:Array Field} (h:Tryz.prog.underlying 180=some (.struct fs)):∀ w,(fs.mapM (m:=Sem) fun f=>Prod.mk f.offset <$> sizeOf f.type).run Tryz.prog w=.ok #[(0,1),(1,1),(2,1),(3,1)] w:=by
  rw [Tryz.underlying180] at h
  cases h
  intro w
  simp [Tryz.sizeOf178,Tryz.sizeOf3,Tryz.sizeOf60]
theorem places182 {fs:Array Field} (h:Tryz.prog.underlying 182=some (.struct fs)):∀ w,(fs.mapM (m:=Sem) fun f=>Prod.mk f.offset <$> sizeOf f.type).run Tryz.prog w=.ok #[(0,1),(1,1)] w:=by
  rw [Tryz.underlying182] at h
  cases h
  intro w
  simp [Tryz.sizeOf3]
theorem places184 {fs:Array Field} (h:Tryz.prog.underlying 184=some (.struct fs)):∀ w,(fs.mapM (m:=Sem) fun f=>Prod.mk f.offset <$> sizeOf f.type).run Tryz.prog w=.ok #[(0,2)] w:=by
  rw [Tryz.underlying184] at h
  cases h
  intro w
  simp [Tryz.sizeOf182]
theorem places188 {fs:Array Field} (h:Tryz.prog.underlying 188=some (.struct fs)):∀ w,(fs.mapM (m:=Sem) fun f=>Prod.mk f.offset <$> sizeOf f.type).run Tryz.prog w=.ok #[(0,1),(1,1),(2,1)] w:=by
  rw [Tryz.underlying188] at h
  cases h
  intro w
  simp [Tryz.sizeOf22,Tryz.sizeOf3]
theorem places195 {fs:Array Field} (h:Tryz.prog.underlying 195=some (.struct fs)):∀ w,(fs.mapM (m:=Sem) fun f=>Prod.mk f.offset <$> sizeOf f.type).run Tryz.prog w=.ok #[(0,1),(1,1)] w:=by
  rw [Tryz.underlying195] at h
  cases h
  intro w
  simp [Tryz.sizeOf178,Tryz.sizeOf193]
theorem places206 {fs:Array Field} (h:Tryz.prog.underlying 206=some (.struct fs)):∀ w,(fs.mapM (m:=Sem) fun f=>Prod.mk f.offset <$> sizeOf f.type).run Tryz.prog w=.ok #[(0,1),(1,1)] w:=by
  rw [Tryz.underlying206] at h
  cases h
  intro w
  simp [Tryz.sizeOf163,Tryz.sizeOf3]
theorem places210 {fs:Array Field} (h:Tryz.prog.underlying 210=some (.struct fs)):∀ w,(fs.mapM (m:=Sem) fun f=>Prod.mk f.offset <$> sizeOf f.type).run Tryz.prog w=.ok #[(0,1),(1,16)] w:=by
  rw [Tryz.underlying210] at h
  cases h
  intro w
  simp [Tryz.sizeOf208,Tryz.sizeOf3]
theorem places212 {fs:Array Field} (h:Tryz.prog.underlying 212=some (.struct fs)):∀ w,(fs.mapM (m:=Sem) fun f=>Prod.mk f.offset <$> sizeOf f.type).run Tryz.prog w=.ok #[(0,1),(1,4)] w:=by
  rw [Tryz.underlying212] at h
  cases h
  intro w
  simp [Tryz.sizeOf175,Tryz.sizeOf4]
theorem places215 {fs:Array Field} (h:Tryz.prog.underlying 215=some (.struct fs)):∀ w,(fs.mapM (m:=Sem) fun f=>Prod.mk f.offset <$> sizeOf f.type).run Tryz.prog w=.ok #[(0,1),(1,1),(2,40)] w:=by
  rw [Tryz.underlying215] at h
  cases h
  intro w
  simp [Tryz.sizeOf213,Tryz.sizeOf3,Tryz.sizeOf4]
theorem places236 {fs:Array Field} (h:Tryz.prog.underlying 236=some (.struct fs)):∀ w,(fs.mapM (m:=Sem) fun f=>Prod.mk f.offset <$> sizeOf f.type).run Tryz.prog w=.ok #[(0,1),(1,1)] w:=by
  rw [Tryz.underlying236] at h
  cases h
  intro w
  simp [Tryz.sizeOf234,Tryz.sizeOf3]
theorem places241 {fs:Array Field} (h:Tryz.prog.underlying 241=some (.struct fs)):∀ w,(fs.mapM (m:=Sem) fun f=>Prod.mk f.offset <$> sizeOf f.type).run Tryz.prog w=.ok #[(0,1),(1,1),(2,1),(3,1),(4,1)] w:=by
  rw [Tryz.underlying241] at h
  cases h
  intro w
  simp [Tryz.sizeOf3,Tryz.sizeOf4]
theorem places261 {fs:Array Field} (h:Tryz.prog.underlying 261=some (.struct fs)):∀ w,(fs.mapM (m:=Sem) fun f=>Prod.mk f.offset <$> sizeOf f.type).run Tryz.prog w=.ok #[(0,1),(1,2)] w:=by
  rw [Tryz.underlying261] at h
  cases h
  intro w
  simp [Tryz.sizeOf29,Tryz.sizeOf36]
theorem places273 {fs:Array Field} (h:Tryz.prog.underlying 273=some (.struct fs)):∀ w,(fs.mapM (m:=Sem) fun f=>Prod.mk f.offset <$> sizeOf f.type).run Tryz.prog w=.ok #[(0,1),(1,1),(2,1),(3,1)] w:=by
  rw [Tryz.underlying273] at h
  cases h
  intro w
  simp [Tryz.sizeOf3]
theorem places292 {fs:Array Field} (h:Tryz.prog.underlying 292=some (.struct fs)):∀ w,(fs.mapM (m:=Sem) fun f=>Prod.mk f.offset <$> sizeOf f.type).run Tryz.prog w=.ok #[(0,1)] w:=by
  rw [Tryz.underlying292] at h
  cases h
  intro w
  simp [Tryz.sizeOf178]
theorem places294 {fs:Array Field} (h:Tryz.prog.underlying 294=some (.struct fs)):∀ w,(fs.mapM (m:=Sem) fun f=>Prod.mk f.offset <$> sizeOf f.type).run Tryz.prog w=.ok #[(0,1),(1,1),(2,1)] w:=by
  rw [Tryz.underlying294] at h
  cases h
  intro w
  simp [Tryz.sizeOf292,Tryz.sizeOf3,Tryz.sizeOf52]
theorem places296 {fs:Array Field} (h:Tryz.prog.underlying 296=some (.struct fs)):∀ w,(fs.mapM (m:=Sem) fun f=>Prod.mk f.offset <$> sizeOf f.type).run Tryz.prog w=.ok #[(0,1),(1,1),(2,1),(3,1)] w:=by
  rw [Tryz.underlying296] at h
  cases h
  intro w
  simp [Tryz.sizeOf3,Tryz.sizeOf4]
theorem places302 {fs:Array Field} (h:Tryz.prog.underlying 302=some (.struct fs)):∀ w,(fs.mapM (m:=Sem) fun f=>Prod.mk f.offset <$> sizeOf f.type).run Tryz.prog w=.ok #[(0,1),(1,128)] w:=by
  rw [Tryz.underlying302] at h
  cases h
  intro w
  simp [Tryz.sizeOf3,Tryz.sizeOf300]
theorem places309 {fs:Array Field} (h:Tryz.prog.underlying 309=some (.struct fs)):∀ w,(fs.mapM (m:=Sem) fun f=>Prod.mk f.offset <$> sizeOf f.type).run Tryz.prog w=.ok #[(0,1),(1,1)] w:=by
  rw [Tryz.underlying309] at h
  cases h
  intro w
  simp [Tryz.sizeOf3]
theorem places311 {fs:Array Field} (h:Tryz.prog.underlying 311=some (.struct fs)):∀ w,(fs.mapM (m:=Sem) fun f=>Prod.mk f.offset <$> sizeOf f.type).run Tryz.prog w=.ok #[(0,3)] w:=by
  rw [Tryz.underlying311] at h
  cases h
  intro w
  simp [Tryz.sizeOf95]
theorem places336 {fs:Array Field} (h:Tryz.prog.underlying 336=some (.struct fs)):∀ w,(fs.mapM (m:=Sem) fun f=>Prod.mk f.offset <$> sizeOf f.type).run Tryz.prog w=.ok #[(0,1),(1,1),(2,1),(3,1),(4,1)] w:=by
  rw [Tryz.underlying336] at h
  cases h
  intro w
  simp [Tryz.sizeOf3,Tryz.sizeOf305]
theorem places345 {fs:Array Field} (h:Tryz.prog.underlying 345=some (.struct fs)):∀ w,(fs.mapM (m:=Sem) fun f=>Prod.mk f.offset <$> sizeOf f.type).run Tryz.prog w=.ok #[(0,9)] w:=by
  rw [Tryz.underlying345] at h
  cases h
  intro w
  simp [Tryz.sizeOf68]
theorem places373 {fs:Array Field} (h:Tryz.prog.underlying 373=some (.struct fs)):∀ w,(fs.mapM (m:=Sem) fun f=>Prod.mk f.offset <$> sizeOf f.type).run Tryz.prog w=.ok #[(0,1),(1,1)] w:=by
  rw [Tryz.underlying373] at h
  cases h
  intro w
  simp [Tryz.sizeOf28,Tryz.sizeOf3]
theorem fint51 {fs:Array Field} (h:Tryz.prog.underlying 51=some (.struct fs)):FInt Tryz.prog 0 fs.toList:=by
  rw [Tryz.underlying51] at h
  cases h
  exact ⟨rfl,(by decide),Tryz.underlying3,rfl,(by decide),Tryz.underlying3,rfl,(by decide),Tryz.underlying3,rfl,(by decide),Tryz.underlying3,rfl,(by decide),Tryz.underlying3,rfl,(by decide),Tryz.underlying3,rfl,(by decide),Tryz.underlying3,trivial⟩
theorem fint309 {fs:Array Field} (h:Tryz.prog.underlying 309=some (.struct fs)):FInt Tryz.prog 0 fs.toList:=by
  rw [Tryz.underlying309] at h
  cases h
  exact ⟨rfl,(by decide),Tryz.underlying3,rfl,(by decide),Tryz.underlying3,trivial⟩
end Go.Proofs.YtohjlkjhpibkmaaGreatDoor
namespace Go.Proofs.YtohjlkjhpibkmaaGreatDoor
open Go Go.LK Go.Proofs.Tryz
set_option maxRecDepth 100000
set_option maxHeartbeats 4000000
theorem bd_Keep (n most:Int):Tri prog 199 #[.int .i64 n,.int .i64 most] [] [] (fun v L'=>v=.int .i64 (Sh.keep n most)∧L'=[]):=by
 refine Tri.en func199 H ntmps199 H fun w0=>J.co 8 H<|O.p (Pu.min H H) H<|O.p (Pu.max H H) H<|O.oc 2 H ?_
 exact J.r0 H H ⟨H,H⟩
theorem bd_minus (a b:Int) (h1:0≤a∧a≤1099511627776) (h2:0≤b∧b≤1099511627776):Tri prog 268 #[.int .i64 a,.int .i64 b] [] [] (fun v L'=>v=.int .i64 (a-b)∧L'=[]):=by
 refine Tri.en func268 H ntmps268 H fun w0=>J.co 8 H<|O.p (Pu.sub' H H (by omega)) H<|O.oc 2 H ?_
 exact J.r0 H H ⟨H,H⟩
theorem bd_plus (a b:Int) (h1:0≤a∧a≤1099511627776) (h2:0≤b∧b≤1099511627776):Tri prog 205 #[.int .i64 a,.int .i64 b] [] [] (fun v L'=>v=.int .i64 (a+b)∧L'=[]):=by
 refine Tri.en func205 H ntmps205 H fun w0=>J.co 8 H<|O.p (Pu.add' H H (by omega)) H<|O.oc 2 H ?_
 exact J.r0 H H ⟨H,H⟩
theorem bd_ticksL (a b:Int):Tri prog 204 #[.int .i64 a,.int .i64 b,.func (.func 268) #[] #[]] [] [] (fun v L'=>v=.int .i64 (Sh.left a b)∧L'=[]):=by
 refine Tri.en func204 H ntmps204 H fun w0=>J.co 8 H<|O.l (Lo.ca C199 (bd_Keep a 1099511627776) [] H H .nil) H ?_
 rintro _ _ ⟨_,⟨rfl,rfl⟩,rfl⟩
 refine O.oo 1 H<|O.l (Lo.ca C199 (bd_Keep b 1099511627776) [] H H .nil) H ?_
 rintro _ _ ⟨_,⟨rfl,rfl⟩,rfl⟩
 refine O.l (Lo.cv call268 H H (bd_minus (Sh.keep a 1099511627776) (Sh.keep b 1099511627776) (Sh.keep_bnd _ (by decide)) (Sh.keep_bnd _ (by decide))) [] H .nil) H ?_
 rintro _ _ ⟨_,⟨rfl,rfl⟩,rfl⟩
 refine O.l (Lo.ca C199 (bd_Keep ((Sh.keep a 1099511627776)-(Sh.keep b 1099511627776)) 1099511627776) [] H H .nil) H ?_
 rintro _ _ ⟨_,⟨rfl,rfl⟩,rfl⟩
 refine O.oc 2 H ?_
 exact J.r0 H H ⟨H,H⟩
theorem bd_Left (a b:Int):Tri prog 187 #[.int .i64 a,.int .i64 b] [] [] (fun v L'=>v=.int .i64 (Sh.left a b)∧L'=[]):=by
 refine Tri.en func187 H ntmps187 H fun w0=>J.co 8 H<|O.l (Lo.ca call204 (bd_ticksL a b) [] H H .nil) H ?_
 rintro _ _ ⟨_,⟨rfl,rfl⟩,rfl⟩
 refine O.oc 2 H ?_
 exact J.r0 H H ⟨H,H⟩
theorem bd_countsA (a b:Int):Tri prog 226 #[.int .i64 a,.int .i64 b,.func (.func 205) #[] #[]] [] [] (fun v L'=>v=.int .i64 (Nd.addC a b)∧L'=[]):=by
 refine Tri.en func226 H ntmps226 H fun w0=>J.co 8 H<|O.l (Lo.ca C199 (bd_Keep a 2147483647) [] H H .nil) H ?_
 rintro _ _ ⟨_,⟨rfl,rfl⟩,rfl⟩
 refine O.oo 1 H<|O.l (Lo.ca C199 (bd_Keep b 2147483647) [] H H .nil) H ?_
 rintro _ _ ⟨_,⟨rfl,rfl⟩,rfl⟩
 refine O.l (Lo.cv call205 H H (bd_plus (Sh.keep a 2147483647) (Sh.keep b 2147483647) (by have h_:=Sh.keep_bnd a (by decide:(0:Int)≤2147483647);omega) (by have h_:=Sh.keep_bnd b (by decide:(0:Int)≤2147483647);omega)) [] H .nil) H ?_
 rintro _ _ ⟨_,⟨rfl,rfl⟩,rfl⟩
 refine O.l (Lo.ca C199 (bd_Keep ((Sh.keep a 2147483647)+(Sh.keep b 2147483647)) 2147483647) [] H H .nil) H ?_
 rintro _ _ ⟨_,⟨rfl,rfl⟩,rfl⟩
 refine O.oc 2 H ?_
 exact J.r0 H H ⟨H,H⟩
theorem bd_Add (a b:Int):Tri prog 288 #[.int .i64 a,.int .i64 b] [] [] (fun v L'=>v=.int .i64 (Nd.addC a b)∧L'=[]):=by
 refine Tri.en func288 H ntmps288 H fun w0=>J.co 8 H<|O.l (Lo.ca call226 (bd_countsA a b) [] H H .nil) H ?_
 rintro _ _ ⟨_,⟨rfl,rfl⟩,rfl⟩
 refine O.oc 2 H ?_
 exact J.r0 H H ⟨H,H⟩
theorem bd_ticksP (a b:Int):Tri prog 204 #[.int .i64 a,.int .i64 b,.func (.func 205) #[] #[]] [] [] (fun v L'=>v=.int .i64 (Nd.later a b)∧L'=[]):=by
 refine Tri.en func204 H ntmps204 H fun w0=>J.co 8 H<|O.l (Lo.ca C199 (bd_Keep a 1099511627776) [] H H .nil) H ?_
 rintro _ _ ⟨_,⟨rfl,rfl⟩,rfl⟩
 refine O.oo 1 H<|O.l (Lo.ca C199 (bd_Keep b 1099511627776) [] H H .nil) H ?_
 rintro _ _ ⟨_,⟨rfl,rfl⟩,rfl⟩
 refine O.l (Lo.cv call205 H H (bd_plus (Sh.keep a 1099511627776) (Sh.keep b 1099511627776) (Sh.keep_bnd _ (by decide)) (Sh.keep_bnd _ (by decide))) [] H .nil) H ?_
 rintro _ _ ⟨_,⟨rfl,rfl⟩,rfl⟩
 refine O.l (Lo.ca C199 (bd_Keep ((Sh.keep a 1099511627776)+(Sh.keep b 1099511627776)) 1099511627776) [] H H .nil) H ?_
 rintro _ _ ⟨_,⟨rfl,rfl⟩,rfl⟩
 refine O.oc 2 H ?_
 exact J.r0 H H ⟨H,H⟩
theorem bd_Later (a b:Int):Tri prog 102 #[.int .i64 a,.int .i64 b] [] [] (fun v L'=>v=.int .i64 (Nd.later a b)∧L'=[]):=by
 refine Tri.en func102 H ntmps102 H fun w0=>J.co 8 H<|O.l (Lo.ca call204 (bd_ticksP a b) [] H H .nil) H ?_
 rintro _ _ ⟨_,⟨rfl,rfl⟩,rfl⟩
 refine O.oc 2 H ?_
 exact J.r0 H H ⟨H,H⟩
theorem lv_Passes (n t:Int):Tri prog 262 #[.int .i64 n,.int .i64 t] [] [] (fun v L'=>v=.bool (Sh.passes n t)∧L'=[]):=by
 refine Tri.en func262 H ntmps262 H fun w0=>J.co 9 H ?_
 refine O.sd 7 H (fun p1=>?_) (fun p1=>?_)
 ·
  refine O.oc 6 H ?_
  exact J.r0 H H ⟨(by simp [vOf,Sh.passes, *]),H⟩
 refine O.oc 6 H ?_
 exact J.r0 H H ⟨(by simp [vOf,Sh.passes, *]),H⟩
theorem cmp_nan (x:Int):Tri prog 379 #[.int .i64 x] [] [] (fun v L'=>v=.bool false∧L'=[]):=by
 refine Tri.en func379 H ntmps379 H fun w0=>J.cc 11 H ?_
 exact J.r0 H H ⟨by simp [vOf],rfl⟩
theorem cmp_compare (x y:Int):Tri prog 344 #[.int .i64 x,.int .i64 y] [] [] (fun v L'=>v=.int .i64 (Nd.cmp x y)∧L'=[]):=by
 refine Tri.en func344 H ntmps344 H fun w0=>J.co 7 H<|O.l (Lo.ca call379 (cmp_nan x) [] H H .nil) H ?_
 rintro _ _ ⟨_,⟨rfl,rfl⟩,rfl⟩
 refine O.oo 5 H<|O.l (Lo.ca call379 (cmp_nan y) [] H H .nil) H ?_
 rintro _ _ ⟨_,⟨rfl,rfl⟩,rfl⟩
 refine O.oc 23 H ?_
 refine J.cd H (fun p3=>?_) (fun p3=>?_)
 ·
  refine J.cc 4 H ?_
  exact J.r0 H H ⟨by simp [vOf,Nd.cmp, *],rfl⟩
 refine J.cc 8 H ?_
 refine J.cd H (fun p4=>?_) (fun p4=>?_)
 ·
  refine J.cc 4 H ?_
  exact J.r0 H H ⟨by simp [vOf,Nd.cmp, *],rfl⟩
 refine J.cc 5 H ?_
 exact J.r0 H H ⟨by simp [vOf,Nd.cmp, *],rfl⟩
theorem rk_first (lv:Value) (l:List Int) (hl:l.length≤100000):Tri prog 343 #[lv] [rd lv 1 (l.map encZ)] [] (fun v L'=>v=.int .i64 (Nd.first l)∧L'=[]):=by
 refine Tri.en func343 H ntmps343 H fun w0=>J.co 8 H<|O.q (Qt.lenM U60 H (Src.ro 0 H)) H<|O.oc 3 H ?_
 refine J.lo (X:=Nat) (fun k=>k≤l.length∧Nd.first l=Nd.first (l.drop k)) (fun k=>[(7,.int .i64 (k:Int))]) (fun k=>[]) (fun k=>l.length-k) 0 [5,6] [] [] ⟨by omega,rfl⟩ ⟨(eqi (by omega)),trivial⟩ H H ?_
 rintro k ⟨hk,hst⟩
 refine J.cc 5 H ?_
 refine J.cd H (fun p1=>?_) (fun p1=>?_)
 ·
  refine J.co 5 H ?_
  obtain ⟨e2,he2⟩:=ex_at (l:=l) (i:=k) (by omega)
  refine O.q (Qt.ix U60 Z3 H (Src.ro 0 H) he2 H (by rfl)) H<|O.q (Qt.le A3 (Src.ro 0 H) he2 0 H (by omega) H) H<|O.oc 7 H ?_
  refine J.cd H (fun p3=>?_) (fun p3=>?_)
  ·
   refine J.cc 5 H ?_
   exact J.r0 H H ⟨(by rw [Nd.first_hit hst he2 (by omega)];rfl),H⟩
  refine J.co 3 H<|O.p (Pu.add' H H (by omega)) H<|O.oc 2 H ?_
  exact J.lq (k+1) [5,6] [] [] ⟨by omega,Nd.first_step hst he2 (by omega)⟩ (by omega) ⟨(eqi (by omega)),trivial⟩ H H
 refine J.cc 5 H ?_
 exact J.r0 H H ⟨(by rw [Nd.first_end hst (by omega)];rfl),H⟩
theorem rk_going (a b:Im):Tri prog 295 #[.agg #[.int .i64 a.id,.int .i64 a.level,.int .i64 a.from_,.int .i64 a.deadline,.int .i64 a.budget,.int .i64 a.since,.int .i64 a.seq],.agg #[.int .i64 b.id,.int .i64 b.level,.int .i64 b.from_,.int .i64 b.deadline,.int .i64 b.budget,.int .i64 b.since,.int .i64 b.seq]] [] [] (fun v L'=>v=.int .i64 (Nd.going a b)∧L'=[]):=by
 refine Tri.en func295 H ntmps295 H fun w0=>J.co 2 H<|O.l (Lo.bx H H) H ?_
 rintro _ _ ⟨g1,rfl,rfl⟩
 refine O.l (Lo.bx H H) H ?_
 rintro _ _ ⟨g2,rfl,rfl⟩
 refine O.oc 3 H<|J.drawHead 15 Tryz.mixed (by kernel_rfl)<|Hd.p (Pu.fieldAddr (off':=3) U66 H Z3 H H H) H<|Hd.q (Qt.lv 1 A3 H H H) H<|Hd.p (Pu.fieldAddr (off':=3) U66 H Z3 H H H) H<|Hd.q (Qt.lv 0 A3 H H H) H<|Hd.call (vs:=[.int .i64 a.deadline,.int .i64 b.deadline]) (caps:=[]) (by exact call344) H H (cmp_compare a.deadline b.deadline) (fun _ _ h=>h) RoOk.nil H<|Hd.p (Pu.fieldAddr (off':=6) U66 H Z3 H H H) H<|Hd.q (Qt.lv 1 A3 H H H) H<|Hd.p (Pu.fieldAddr (off':=6) U66 H Z3 H H H) H<|Hd.q (Qt.lv 0 A3 H H H) H<|Hd.call (vs:=[.int .i64 a.seq,.int .i64 b.seq]) (caps:=[]) (by exact call344) H H (cmp_compare a.seq b.seq) (fun _ _ h=>h) RoOk.nil H<|Hd.p (Pu.fieldAddr (off':=0) U66 H Z3 H H H) H<|Hd.q (Qt.lv 1 A3 H H H) H<|Hd.p (Pu.fieldAddr (off':=0) U66 H Z3 H H H) H<|Hd.q (Qt.lv 0 A3 H H H) H<|Hd.call (vs:=[.int .i64 a.id,.int .i64 b.id]) (caps:=[]) (by exact call344) H H (cmp_compare a.id b.id) (fun _ _ h=>h) RoOk.nil H<|Hd.nil<|O.l (Lo.bm encZ [Nd.cmp a.deadline b.deadline,Nd.cmp a.seq b.seq,Nd.cmp a.id b.id] U60 Z3 Y3 H H H (by kernel_rfl) H H) H ?_
 rintro V3 _ rfl
 refine O.l (Lo.ca call343 (rk_first V3 ([Nd.cmp a.deadline b.deadline,Nd.cmp a.seq b.seq,Nd.cmp a.id b.id]) (by first|omega|simp)) [] H H (.of 0 row_rd H H .nil)) H ?_
 rintro _ _ ⟨_,⟨rfl,rfl⟩,rfl⟩
 refine O.oc 2 H ?_
 exact J.r0 H H ⟨H,H⟩
theorem rk_Before (a b:Im):Tri prog 351 #[.agg #[.int .i64 a.id,.int .i64 a.level,.int .i64 a.from_,.int .i64 a.deadline,.int .i64 a.budget,.int .i64 a.since,.int .i64 a.seq],.agg #[.int .i64 b.id,.int .i64 b.level,.int .i64 b.from_,.int .i64 b.deadline,.int .i64 b.budget,.int .i64 b.since,.int .i64 b.seq]] [] [] (fun v L'=>v=.bool (Nd.before a b)∧L'=[]):=by
 refine Tri.en func351 H ntmps351 H fun w0=>J.co 2 H<|O.l (Lo.bx H H) H ?_
 rintro _ _ ⟨g1,rfl,rfl⟩
 refine O.l (Lo.bx H H) H ?_
 rintro _ _ ⟨g2,rfl,rfl⟩
 refine O.oo 4 H<|O.q (Qt.lva 1 A66 Z66 H H H) H<|O.q (Qt.lva 0 A66 Z66 H H H) H<|O.l (Lo.ca call295 (rk_going a b) [] H H .nil) H ?_
 rintro _ _ ⟨_,⟨rfl,rfl⟩,rfl⟩
 refine O.oc 3 H ?_
 exact J.r0 H H ⟨H,H⟩
theorem rk_Worse (a b:Im):Tri prog 320 #[.agg #[.int .i64 a.id,.int .i64 a.level,.int .i64 a.from_,.int .i64 a.deadline,.int .i64 a.budget,.int .i64 a.since,.int .i64 a.seq],.agg #[.int .i64 b.id,.int .i64 b.level,.int .i64 b.from_,.int .i64 b.deadline,.int .i64 b.budget,.int .i64 b.since,.int .i64 b.seq]] [] [] (fun v L'=>v=.bool (Nd.worse a b)∧L'=[]):=by
 refine Tri.en func320 H ntmps320 H fun w0=>J.co 2 H<|O.l (Lo.bx H H) H ?_
 rintro _ _ ⟨g1,rfl,rfl⟩
 refine O.l (Lo.bx H H) H ?_
 rintro _ _ ⟨g2,rfl,rfl⟩
 refine O.oc 3 H<|J.drawHead 8 Tryz.mixed (by kernel_rfl)<|Hd.p (Pu.fieldAddr (off':=1) U66 H Z3 H H H) H<|Hd.q (Qt.lv 1 A3 H H H) H<|Hd.p (Pu.fieldAddr (off':=1) U66 H Z3 H H H) H<|Hd.q (Qt.lv 0 A3 H H H) H<|Hd.call (vs:=[.int .i64 a.level,.int .i64 b.level]) (caps:=[]) (by exact call344) H H (cmp_compare a.level b.level) (fun _ _ h=>h) RoOk.nil H<|Hd.q (Qt.lva 1 A66 Z66 H H H) H<|Hd.q (Qt.lva 0 A66 Z66 H H H) H<|Hd.call (vs:=[.agg #[.int .i64 a.id,.int .i64 a.level,.int .i64 a.from_,.int .i64 a.deadline,.int .i64 a.budget,.int .i64 a.since,.int .i64 a.seq],.agg #[.int .i64 b.id,.int .i64 b.level,.int .i64 b.from_,.int .i64 b.deadline,.int .i64 b.budget,.int .i64 b.since,.int .i64 b.seq]]) (caps:=[]) (by exact call295) H H (rk_going a b) (fun _ _ h=>h) RoOk.nil H<|Hd.nil<|O.l (Lo.bm encZ [Nd.cmp a.level b.level,Nd.going a b] U60 Z3 Y3 H H H (by kernel_rfl) H H) H ?_
 rintro V3 _ rfl
 refine O.l (Lo.ca call343 (rk_first V3 ([Nd.cmp a.level b.level,Nd.going a b]) (by first|omega|simp)) [] H H (.of 0 row_rd H H .nil)) H ?_
 rintro _ _ ⟨_,⟨rfl,rfl⟩,rfl⟩
 refine O.oc 3 H ?_
 exact J.r0 H H ⟨H,H⟩
theorem rk_Victim1 (a b:Im):Tri prog 319 #[.agg #[.int .i64 a.id,.int .i64 a.level,.int .i64 a.from_,.int .i64 a.deadline,.int .i64 a.budget,.int .i64 a.since,.int .i64 a.seq],.agg #[.int .i64 b.id,.int .i64 b.level,.int .i64 b.from_,.int .i64 b.deadline,.int .i64 b.budget,.int .i64 b.since,.int .i64 b.seq]] [] [] (fun v L'=>v=.bool (Nd.worse a b)∧L'=[]):=by
 refine Tri.en func319 H ntmps319 H fun w0=>J.co 2 H<|O.l (Lo.bx H H) H ?_
 rintro _ _ ⟨g1,rfl,rfl⟩
 refine O.l (Lo.bx H H) H ?_
 rintro _ _ ⟨g2,rfl,rfl⟩
 refine O.oo 4 H<|O.q (Qt.lva 1 A66 Z66 H H H) H<|O.q (Qt.lva 0 A66 Z66 H H H) H<|O.l (Lo.ca call320 (rk_Worse a b) [] H H .nil) H ?_
 rintro _ _ ⟨_,⟨rfl,rfl⟩,rfl⟩
 refine O.oc 2 H ?_
 exact J.r0 H H ⟨H,H⟩
theorem rk_Ends (x:Im) (now:Int):Tri prog 104 #[.agg #[.int .i64 x.id,.int .i64 x.level,.int .i64 x.from_,.int .i64 x.deadline,.int .i64 x.budget,.int .i64 x.since,.int .i64 x.seq],.int .i64 now] [] [] (fun v L'=>v=.int .i64 (Nd.ends x now)∧L'=[]):=by
 refine Tri.en func104 H ntmps104 H fun w0=>J.co 2 H<|O.l (Lo.bx H H) H ?_
 rintro _ _ ⟨g1,rfl,rfl⟩
 refine O.oo 7 H<|O.q (Qt.lv 0 A3 H H H) H<|O.oc 4 H ?_
 refine J.cd H (fun p2=>?_) (fun p2=>?_)
 ·
  refine J.cc 4 H ?_
  exact J.r0 H H ⟨by simp [vOf,Nd.ends, *],rfl⟩
 refine J.seq<|J.drawHead 8 Tryz.mixed (by kernel_rfl)<|Hd.p (Pu.move H) H<|Hd.p (Pu.fieldAddr (off':=5) U66 H Z3 H H H) H<|Hd.q (Qt.lv 0 A3 H H H) H<|Hd.call (vs:=[.int .i64 now,.int .i64 x.since]) (caps:=[]) (by exact call187) H H (bd_Left now x.since) (fun _ _ h=>h) RoOk.nil H<|Hd.p (Pu.fieldAddr (off':=4) U66 H Z3 H H H) H<|Hd.q (Qt.lv 0 A3 H H H) H<|Hd.p (Pu.gtr H H) H<|Hd.p (Pu.assign H) H<|Hd.nil<|O.nil ?_
 refine J.cd H (fun p3=>?_) (fun p3=>?_)
 ·
  refine J.cc 4 H ?_
  exact J.r0 H H ⟨by simp [vOf,Nd.ends, *],rfl⟩
 refine J.cc 6 H ?_
 exact J.r0 H H ⟨by simp [vOf,Nd.ends, *],rfl⟩
theorem so_ins (V:Value) (l:List Im) (a b:Int) (hl:l.length≤100000) (ha:0≤a) (hab:a≤b) (hb:b≤l.length):Tri prog 377 #[V,.int .i64 a,.int .i64 b,.func (.func 295) #[] #[]] [] [row V 66 7 (l.map Im.cells)] (fun v L'=>v=.tuple #[]∧∃ m:List Im,m.Perm l∧L'=[row V 66 7 (m.map Im.cells)]):=by
 refine Tri.en func377 H ntmps377 H fun w0=>J.co 3 H<|O.p (Pu.add' H H (by omega)) H<|O.oc 3 H ?_
 refine J.lo (X:=Int×List Im) (fun (i,m)=>a+1≤i∧m.Perm l) (fun (i,m)=>[(8,.int .i64 i)]) (fun (i,m)=>[row V 66 7 (m.map Im.cells)]) (fun (i,m)=>(b-i).toNat) ⟨a+1,l⟩ [0,1,2,3] [0] [] ⟨by omega,List.Perm.refl _⟩ ⟨H,trivial⟩ H H ?_
 rintro ⟨i,m⟩ ⟨hi,hp⟩
 refine J.cc 7 H ?_
 refine J.cd H (fun p1=>?_) (fun p1=>?_)
 ·
  refine J.cc 9 H ?_
  refine J.lo (X:=Int×List Im) (fun (j,m2)=>a≤j∧j≤i∧i < b∧m2.Perm l) (fun (j,m2)=>[(9,.int .i64 j)]) (fun (j,m2)=>[row V 66 7 (m2.map Im.cells)]) (fun (j,m2)=>j.toNat) ⟨i,m⟩ [0,1,2,3,8] [0] [] ⟨by omega,by omega,by omega,hp⟩ ⟨H,trivial⟩ H H ?_
  rintro ⟨j,m2⟩ ⟨hj,hji,hib,hp⟩
  refine J.cc 2 H<|J.drawTail 14 Tryz.mixed (by kernel_rfl)<|S.r 4 H ?_
  refine S.sd 21 H (fun p2=>?_) (fun p2=>?_)
  ·
   refine S.r 3 H ?_
   obtain ⟨e3,he3⟩:=ex_at (l:=m2) (i:=(j).toNat) (by first|omega|(simp only [List.length_append,List.length_nil];omega)|(have hn:=hp.length_eq;first|omega|(simp only [List.length_set];omega)))
   refine S.gz (Qt.ix U52 Z66 H (Src.row 0 H) he3 H (by omega)) H H<|S.gz (Qt.lea A66 Z66 (Src.row 0 H) he3 0 H (by omega) H) H H<|S.r 2 H<|S.gz (Pu.qt (Pu.sub' H H (by omega))) H H ?_
   obtain ⟨e4,he4⟩:=ex_at (l:=m2) (i:=(j-1).toNat) (by first|omega|(simp only [List.length_append,List.length_nil];omega)|(have hn:=hp.length_eq;first|omega|(simp only [List.length_set];omega)))
   refine S.gz (Qt.ix U52 Z66 H (Src.row 0 H) he4 H (by omega)) H H<|S.gz (Qt.lea A66 Z66 (Src.row 0 H) he4 0 H (by omega) H) H H<|S.endO<|O.gy (Lo.cv call295 H H (rk_going e3 e4) [] H .nil) H H ?_
   rintro _ _ ⟨_,⟨rfl,rfl⟩,rfl⟩
   refine O.oc 3 H ?_
   refine J.cd H (fun p6=>?_) (fun p6=>?_)
   ·
    refine J.cc 3 H<|J.dm [(0,false),(1,false),(2,false),(3,false),(4,false),(5,false),(6,false),(7,false),(8,false),(9,false),(10,false),(11,false),(12,false),(13,false),(14,false),(15,true),(16,false),(17,true)] [0] Tryz.mixed (by kernel_rfl) H<|Mx.r 4 H<|Mx.p H (Pu.sub' H H (by omega)) H<|Mx.r 2 H<|Mx.p H (Pu.sub' H H (by omega)) H<|Mx.q H (Qt.ix U52 Z66 H (Src.row 0 H) he4 H (by omega)) H<|Mx.q H (Qt.lea A66 Z66 (Src.row 0 H) he4 0 H (by omega) H) H<|Mx.r 2 H<|Mx.q H (Qt.ix U52 Z66 H (Src.row 0 H) he3 H (by omega)) H<|Mx.q H (Qt.lea A66 Z66 (Src.row 0 H) he3 0 H (by omega) H) H<|Mx.q H (Qt.ix U52 Z66 H (Src.row 0 H) he3 H (by omega)) H<|Mx.l0 H (Lo.storeM 0 (j:=(j).toNat) (off:=0) (vs:=[.int .i64 e4.id,.int .i64 e4.level,.int .i64 e4.from_,.int .i64 e4.deadline,.int .i64 e4.budget,.int .i64 e4.since,.int .i64 e4.seq]) (e:=[.int .i64 e3.id,.int .i64 e3.level,.int .i64 e3.from_,.int .i64 e3.deadline,.int .i64 e3.budget,.int .i64 e3.since,.int .i64 e3.seq]) (⟨e4.id,e4.level,e4.from_,e4.deadline,e4.budget,e4.since,e4.seq⟩) H H H H (by omega) he3 H Z66 H H H H H) ?_
    rintro _ _ rfl
    refine MxK.al [0] H (by kernel_rfl) ?_
    obtain ⟨e8,he8⟩:=ex_at (l:=m2.set (j).toNat (⟨e4.id,e4.level,e4.from_,e4.deadline,e4.budget,e4.since,e4.seq⟩)) (i:=(j-1).toNat) (by first|omega|(simp only [List.length_append,List.length_nil];omega)|(have hn:=hp.length_eq;first|omega|(simp only [List.length_set];omega)))
    refine Mx.q H (Qt.ix U52 Z66 H (Src.row 0 H) he8 H (by omega)) H<|Mx.l0 H (Lo.storeM 0 (j:=(j-1).toNat) (off:=0) (vs:=[.int .i64 e3.id,.int .i64 e3.level,.int .i64 e3.from_,.int .i64 e3.deadline,.int .i64 e3.budget,.int .i64 e3.since,.int .i64 e3.seq]) (e:=[.int .i64 e8.id,.int .i64 e8.level,.int .i64 e8.from_,.int .i64 e8.deadline,.int .i64 e8.budget,.int .i64 e8.since,.int .i64 e8.seq]) (⟨e3.id,e3.level,e3.from_,e3.deadline,e3.budget,e3.since,e3.seq⟩) H H H H (by omega) he8 H Z66 H H H H H) ?_
    rintro _ _ rfl
    refine MxK.al [0] H (by kernel_rfl)<|Mx.nil<|J.co 3 H<|O.p (Pu.sub' H H (by omega)) H<|O.oc 2 H ?_
    exact J.lq ⟨j-1,(m2.set (j).toNat (⟨e4.id,e4.level,e4.from_,e4.deadline,e4.budget,e4.since,e4.seq⟩)).set (j-1).toNat (⟨e3.id,e3.level,e3.from_,e3.deadline,e3.budget,e3.since,e3.seq⟩)⟩ [0,1,2,3,8] [0] [] ⟨by omega,by omega,hib,(Nd.swap_perm (by assumption) (by assumption)).trans hp⟩ (by dsimp only;omega) ⟨H,trivial⟩ H H
   refine J.co 4 H<|O.p (Pu.add' H H (by omega)) H<|O.oc 2 H ?_
   exact J.lq ⟨i+1,m2⟩ [0,1,2,3] [0] [] ⟨by omega,hp⟩ (by dsimp only;omega) ⟨H,trivial⟩ H H
  refine S.r 10 H<|S.endO<|O.oo 9 H<|O.p (Pu.add' H H (by omega)) H<|O.oc 2 H ?_
  exact J.lq ⟨i+1,m2⟩ [0,1,2,3] [0] [] ⟨by omega,hp⟩ (by dsimp only;omega) ⟨H,trivial⟩ H H
 refine J.cc 1 H ?_
 exact J.dn [] [0] H trivial H ⟨H,_,hp,H⟩
theorem so_swp (V:Value) (l:List Im) (a b n:Int) (hl:l.length≤100000) (ha:0≤a) (hb:0≤b) (hn0:0≤n) (hal:a+n≤l.length) (hbl:b+n≤l.length):Tri prog 392 #[V,.int .i64 a,.int .i64 b,.int .i64 n,.func (.func 295) #[] #[]] [] [row V 66 7 (l.map Im.cells)] (fun v L'=>v=.tuple #[]∧∃ m:List Im,m.Perm l∧L'=[row V 66 7 (m.map Im.cells)]):=by
 refine Tri.en func392 H ntmps392 H fun w0=>J.cc 5 H ?_
 refine J.lo (X:=Int×List Im) (fun (i,m)=>0≤i∧m.Perm l) (fun (i,m)=>[(10,.int .i64 i)]) (fun (i,m)=>[row V 66 7 (m.map Im.cells)]) (fun (i,m)=>(n-i).toNat) ⟨0,l⟩ [0,1,2,3] [0] [] ⟨by omega,List.Perm.refl _⟩ ⟨H,trivial⟩ H H ?_
 rintro ⟨i,m⟩ ⟨hi,hp⟩
 refine J.cc 7 H ?_
 refine J.cd H (fun p1=>?_) (fun p1=>?_)
 ·
  refine J.cc 3 H<|J.dm [(0,false),(1,false),(2,false),(3,false),(4,false),(5,false),(6,false),(7,false),(8,false),(9,false),(10,false),(11,false),(12,false),(13,false),(14,false),(15,false),(16,false),(17,false),(18,false),(19,false),(20,false),(21,true),(22,false),(23,true)] [0] Tryz.mixed (by kernel_rfl) H<|Mx.r 3 H<|Mx.p H (Pu.add' H H (by omega)) H<|Mx.r 3 H<|Mx.p H (Pu.add' H H (by omega)) H<|Mx.r 3 H<|Mx.p H (Pu.add' H H (by omega)) H ?_
  obtain ⟨e2,he2⟩:=ex_at (l:=m) (i:=(b+i).toNat) (by first|omega|(simp only [List.length_append,List.length_nil];omega)|(have hn:=hp.length_eq;first|omega|(simp only [List.length_set];omega)))
  refine Mx.q H (Qt.ix U52 Z66 H (Src.row 0 H) he2 H (by omega)) H<|Mx.q H (Qt.lea A66 Z66 (Src.row 0 H) he2 0 H (by omega) H) H<|Mx.r 3 H<|Mx.p H (Pu.add' H H (by omega)) H ?_
  obtain ⟨e3,he3⟩:=ex_at (l:=m) (i:=(a+i).toNat) (by first|omega|(simp only [List.length_append,List.length_nil];omega)|(have hn:=hp.length_eq;first|omega|(simp only [List.length_set];omega)))
  refine Mx.q H (Qt.ix U52 Z66 H (Src.row 0 H) he3 H (by omega)) H<|Mx.q H (Qt.lea A66 Z66 (Src.row 0 H) he3 0 H (by omega) H) H<|Mx.q H (Qt.ix U52 Z66 H (Src.row 0 H) he3 H (by omega)) H<|Mx.l0 H (Lo.storeM 0 (j:=(a+i).toNat) (off:=0) (vs:=[.int .i64 e2.id,.int .i64 e2.level,.int .i64 e2.from_,.int .i64 e2.deadline,.int .i64 e2.budget,.int .i64 e2.since,.int .i64 e2.seq]) (e:=[.int .i64 e3.id,.int .i64 e3.level,.int .i64 e3.from_,.int .i64 e3.deadline,.int .i64 e3.budget,.int .i64 e3.since,.int .i64 e3.seq]) (⟨e2.id,e2.level,e2.from_,e2.deadline,e2.budget,e2.since,e2.seq⟩) H H H H (by omega) he3 H Z66 H H H H H) ?_
  rintro _ _ rfl
  refine MxK.al [0] H (by kernel_rfl) ?_
  obtain ⟨e5,he5⟩:=ex_at (l:=m.set (a+i).toNat (⟨e2.id,e2.level,e2.from_,e2.deadline,e2.budget,e2.since,e2.seq⟩)) (i:=(b+i).toNat) (by first|omega|(simp only [List.length_append,List.length_nil];omega)|(have hn:=hp.length_eq;first|omega|(simp only [List.length_set];omega)))
  refine Mx.q H (Qt.ix U52 Z66 H (Src.row 0 H) he5 H (by omega)) H<|Mx.l0 H (Lo.storeM 0 (j:=(b+i).toNat) (off:=0) (vs:=[.int .i64 e3.id,.int .i64 e3.level,.int .i64 e3.from_,.int .i64 e3.deadline,.int .i64 e3.budget,.int .i64 e3.since,.int .i64 e3.seq]) (e:=[.int .i64 e5.id,.int .i64 e5.level,.int .i64 e5.from_,.int .i64 e5.deadline,.int .i64 e5.budget,.int .i64 e5.since,.int .i64 e5.seq]) (⟨e3.id,e3.level,e3.from_,e3.deadline,e3.budget,e3.since,e3.seq⟩) H H H H (by omega) he5 H Z66 H H H H H) ?_
  rintro _ _ rfl
  refine MxK.al [0] H (by kernel_rfl)<|Mx.nil<|J.co 3 H<|O.p (Pu.add' H H (by omega)) H<|O.oc 2 H ?_
  exact J.lq ⟨i+1,(m.set (a+i).toNat (⟨e2.id,e2.level,e2.from_,e2.deadline,e2.budget,e2.since,e2.seq⟩)).set (b+i).toNat (⟨e3.id,e3.level,e3.from_,e3.deadline,e3.budget,e3.since,e3.seq⟩)⟩ [0,1,2,3] [0] [] ⟨by omega,(Nd.swap_perm (by assumption) (by assumption)).trans hp⟩ (by dsimp only;omega) ⟨H,trivial⟩ H H
 refine J.cc 1 H ?_
 exact J.dn [] [0] H trivial H ⟨H,_,hp,H⟩
theorem so_rot (V:Value) (l:List Im) (a q b:Int) (hl:l.length≤100000) (ha:0≤a) (haq:a < q) (hqb:q < b) (hb:b≤l.length):Tri prog 389 #[V,.int .i64 a,.int .i64 q,.int .i64 b,.func (.func 295) #[] #[]] [] [row V 66 7 (l.map Im.cells)] (fun v L'=>v=.tuple #[]∧∃ m:List Im,m.Perm l∧L'=[row V 66 7 (m.map Im.cells)]):=by
 refine Tri.en func389 H ntmps389 H fun w0=>J.co 4 H<|O.p (Pu.sub' H H (by omega)) H<|O.oo 6 H<|O.p (Pu.sub' H H (by omega)) H<|O.oc 4 H ?_
 refine J.lo (X:=Int×Int×List Im) (fun (i,j,m)=>1≤i∧i≤q-a∧1≤j∧j≤b-q∧m.Perm l) (fun (i,j,m)=>[(10,.int .i64 i),(11,.int .i64 j)]) (fun (i,j,m)=>[row V 66 7 (m.map Im.cells)]) (fun (i,j,m)=>(i+j).toNat) ⟨q-a,b-q,l⟩ [0,2,4] [0] [] ⟨by omega,by omega,by omega,by omega,List.Perm.refl _⟩ ⟨H,H,trivial⟩ H H ?_
 rintro ⟨i,j,m⟩ ⟨hi,hia,hj,hjb,hp⟩
 refine J.cc 7 H ?_
 refine J.cd H (fun p1=>?_) (fun p1=>?_)
 ·
  refine J.cc 8 H ?_
  refine J.cd H (fun p2=>?_) (fun p2=>?_)
  ·
   refine J.co 5 H<|O.p (Pu.sub' H H (by omega)) H<|O.oo 3 H<|O.l (Lo.ca call392 (so_swp V m (q-i) q j (by first|omega|(simp only [List.length_append,List.length_nil];omega)|(have hn:=hp.length_eq;first|omega|(simp only [List.length_set];omega))) (by omega) (by omega) (by omega) (by first|omega|(simp only [List.length_append,List.length_nil];omega)|(have hn:=hp.length_eq;first|omega|(simp only [List.length_set];omega))) (by first|omega|(simp only [List.length_append,List.length_nil];omega)|(have hn:=hp.length_eq;first|omega|(simp only [List.length_set];omega)))) [0] H H .nil) H ?_
   rintro _ _ ⟨_,⟨rfl,m3,hq4,rfl⟩,rfl⟩
   have hp:=hq4.trans hp
   refine O.oo 4 H<|O.p (Pu.sub' H H (by omega)) H<|O.oc 3 H ?_
   exact J.lq ⟨i-j,j,m3⟩ [0,2,4] [0] [] ⟨by omega,by omega,by omega,by omega,hp⟩ (by dsimp only;omega) ⟨H,H,trivial⟩ H H
  refine J.co 5 H<|O.p (Pu.sub' H H (by omega)) H<|O.oo 2 H<|O.p (Pu.add' H H (by omega)) H<|O.oo 1 H<|O.p (Pu.sub' H H (by omega)) H<|O.oo 2 H<|O.l (Lo.ca call392 (so_swp V m (q-i) ((q+j)-i) i (by first|omega|(simp only [List.length_append,List.length_nil];omega)|(have hn:=hp.length_eq;first|omega|(simp only [List.length_set];omega))) (by omega) (by omega) (by omega) (by first|omega|(simp only [List.length_append,List.length_nil];omega)|(have hn:=hp.length_eq;first|omega|(simp only [List.length_set];omega))) (by first|omega|(simp only [List.length_append,List.length_nil];omega)|(have hn:=hp.length_eq;first|omega|(simp only [List.length_set];omega)))) [0] H H .nil) H ?_
  rintro _ _ ⟨_,⟨rfl,m6,hq7,rfl⟩,rfl⟩
  have hp:=hq7.trans hp
  refine O.oo 4 H<|O.p (Pu.sub' H H (by omega)) H<|O.oc 3 H ?_
  exact J.lq ⟨i,j-i,m6⟩ [0,2,4] [0] [] ⟨by omega,by omega,by omega,by omega,hp⟩ (by dsimp only;omega) ⟨H,H,trivial⟩ H H
 refine J.co 5 H<|O.p (Pu.sub' H H (by omega)) H<|O.oo 3 H<|O.l (Lo.ca call392 (so_swp V m (q-i) q i (by first|omega|(simp only [List.length_append,List.length_nil];omega)|(have hn:=hp.length_eq;first|omega|(simp only [List.length_set];omega))) (by omega) (by omega) (by omega) (by first|omega|(simp only [List.length_append,List.length_nil];omega)|(have hn:=hp.length_eq;first|omega|(simp only [List.length_set];omega))) (by first|omega|(simp only [List.length_append,List.length_nil];omega)|(have hn:=hp.length_eq;first|omega|(simp only [List.length_set];omega)))) [0] H H .nil) H ?_
 rintro _ _ ⟨_,⟨rfl,m9,hq10,rfl⟩,rfl⟩
 have hp:=hq10.trans hp
 refine O.nil ?_
 exact J.dn [] [0] H trivial H ⟨H,_,hp,H⟩
end Go.Proofs.YtohjlkjhpibkmaaGreatDoor
