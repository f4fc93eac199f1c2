import Derived.Test.YtaadbnppakcjnaaGreatDoorPRun0
import Derived.Test.YtaadbnppakcjnaaGreatDoorPRun1
import Derived.Test.YtaadbnppakcjnaaGreatDoorPRun2
import Derived.Test.YtaadbnppakcjnaaGreatDoorPRun3
import Derived.Test.YtaadbnppakcjnaaGreatDoorPRun4
import Derived.Test.YtaadbnppakcjnaaGreatDoorPRun5
import Derived.Test.YtaadbnppakcjnaaGreatDoorPRun6
import Derived.Test.YtaadbnppakcjnaaGreatDoorPRun7
import Derived.Test.YtaadbnppakcjnaaGreatDoorPRun8
import Derived.Test.YtaadbnppakcjnaaGreatDoorPRun9
import Derived.Test.YtaadbnppakcjnaaGreatDoorPRun10
import Derived.Test.YtaadbnppakcjnaaGreatDoorPRun11
import Derived.Test.YtaadbnppakcjnaaGreatDoorPRun12
import Derived.Test.YtaadbnppakcjnaaGreatDoorPRun13
import Derived.Test.YtaadbnppakcjnaaGreatDoorPRun14
import Derived.Test.YtaadbnppakcjnaaGreatDoorPRun15
import Derived.Test.YtaadbnppakcjnaaGreatDoorPRun16
import Derived.Test.YtaadbnppakcjnaaGreatDoorPRun17
import Derived.Test.YtaadbnppakcjnaaGreatDoorPRun18
import Derived.Test.YtaadbnppakcjnaaGreatDoorPRun19
import Derived.Test.YtaadbnppakcjnaaGreatDoorPRun20
import Derived.Test.YtaadbnppakcjnaaGreatDoorPRun21
import Derived.Test.YtaadbnppakcjnaaGreatDoorPRun22
import Derived.Test.YtaadbnppakcjnaaGreatDoorPRun23
import Derived.Test.YtaadbnppakcjnaaGreatDoorPRun24
/- Part of the proof of SolveKnown. -/
namespace Go.Proofs
open Go Go.Eng
set_option maxRecDepth 1000000
namespace TryzP
theorem okE7 : EntryOk Tryz.prog E7 := entryI_ok (Tryz.evT_ok Tryz.memN Tryz.preB_ok) rE7
theorem okE6 : EntryOk Tryz.prog E6 := entryI_ok (Tryz.evT_ok (Tryz.memC okE7 Tryz.memN) Tryz.preB_ok) rE6
theorem okE10 : EntryOk Tryz.prog E10 := entryI_ok (Tryz.evT_ok Tryz.memN Tryz.preB_ok) rE10
theorem okE13 : EntryOk Tryz.prog E13 := entryI_ok (Tryz.evT_ok Tryz.memN Tryz.preB_ok) rE13
theorem okE12 : EntryOk Tryz.prog E12 := entryI_ok (Tryz.evT_ok (Tryz.memC okE13 Tryz.memN) Tryz.preB_ok) rE12
theorem okE17 : EntryOk Tryz.prog E17 := entryI_ok (Tryz.evT_ok Tryz.memN Tryz.preB_ok) rE17
theorem okE15 : EntryOk Tryz.prog E15 := entryI_ok (Tryz.evT_ok (Tryz.memC okE17 Tryz.memN) Tryz.preB_ok) rE15
theorem okE23 : EntryOk Tryz.prog E23 := entryI_ok (Tryz.evT_ok Tryz.memN Tryz.preB_ok) rE23
theorem okE24 : EntryOk Tryz.prog E24 := entryI_ok (Tryz.evT_ok Tryz.memN Tryz.preB_ok) rE24
theorem okE20 : EntryOk Tryz.prog E20 := entryI_ok (Tryz.evT_ok (Tryz.memC okE23 (Tryz.memC okE24 Tryz.memN)) Tryz.preB_ok) rE20
theorem okE19 : EntryOk Tryz.prog E19 := entryI_ok (Tryz.evT_ok (Tryz.memC okE20 Tryz.memN) Tryz.preB_ok) rE19
theorem okE27 : EntryOk Tryz.prog E27 := entryI_ok (Tryz.evT_ok Tryz.memN Tryz.preB_ok) rE27
theorem okE26 : EntryOk Tryz.prog E26 := entryI_ok (Tryz.evT_ok (Tryz.memC okE27 Tryz.memN) Tryz.preB_ok) rE26
theorem okE30 : EntryOk Tryz.prog E30 := entryI_ok (Tryz.evT_ok Tryz.memN Tryz.preB_ok) rE30
theorem okE32 : EntryOk Tryz.prog E32 := entryI_ok (Tryz.evT_ok Tryz.memN Tryz.preB_ok) rE32
theorem okE33 : EntryOk Tryz.prog E33 := entryI_ok (Tryz.evT_ok Tryz.memN Tryz.preB_ok) rE33
theorem okE3 : EntryOk Tryz.prog E3 := entryI_ok (Tryz.evT_ok (Tryz.memC okE6 (Tryz.memC okE10 (Tryz.memC okE12 (Tryz.memC okE15 (Tryz.memC okE19 (Tryz.memC okE26 (Tryz.memC okE30 (Tryz.memC okE32 (Tryz.memC okE33 Tryz.memN))))))))) Tryz.preB_ok) rE3
theorem okE38 : EntryOk Tryz.prog E38 := entryI_ok (Tryz.evT_ok Tryz.memN Tryz.preB_ok) rE38
theorem okE37 : EntryOk Tryz.prog E37 := entryI_ok (Tryz.evT_ok (Tryz.memC okE38 Tryz.memN) Tryz.preB_ok) rE37
theorem okE41 : LAt Tryz.prog Go.Eng.Tryz.X0 5 507 E41 := Tryz.lat Tryz.memN (Tryz.evT_ok Tryz.memN Tryz.preB_ok) rE41
theorem okE40 : LAt Tryz.prog Go.Eng.Tryz.X0 5 507 E40 := Tryz.lat (Tryz.memC okE41 Tryz.memN) (Tryz.evT_ok Tryz.memN Tryz.preB_ok) rE40
theorem okE39 : LAt Tryz.prog Go.Eng.Tryz.X0 5 507 E39 := Tryz.lat (Tryz.memC okE40 Tryz.memN) (Tryz.evT_ok Tryz.memN Tryz.preB_ok) rE39
theorem okE44 : LAt Tryz.prog Go.Eng.Tryz.X0 22 249 E44 := Tryz.lat Tryz.memN (Tryz.evT_ok Tryz.memN Tryz.preB_ok) rE44
theorem okE45 : EntryOk Tryz.prog E45 := entryI_ok (Tryz.evT_ok Tryz.memN Tryz.preB_ok) rE45
theorem okE35 : EntryOk Tryz.prog E35 := entryI_ok (Tryz.evT_ok (Tryz.memC okE37 (Tryz.memC okE45 Tryz.memN)) (Tryz.preL22_249 (Tryz.memC okE44 Tryz.memN) (Tryz.preL5_507 (Tryz.memC okE39 Tryz.memN) Tryz.preB_ok))) rE35
theorem okE51 : EntryOk Tryz.prog E51 := entryI_ok (Tryz.evT_ok Tryz.memN Tryz.preB_ok) rE51
theorem okE49 : EntryOk Tryz.prog E49 := entryI_ok (Tryz.evT_ok (Tryz.memC okE51 Tryz.memN) Tryz.preB_ok) rE49
theorem okE53 : EntryOk Tryz.prog E53 := entryI_ok (Tryz.evT_ok Tryz.memN Tryz.preB_ok) rE53
theorem okE47 : EntryOk Tryz.prog E47 := entryI_ok (Tryz.evT_ok (Tryz.memC okE49 (Tryz.memC okE53 Tryz.memN)) Tryz.preB_ok) rE47
theorem okE59 : EntryOk Tryz.prog E59 := entryI_ok (Tryz.evT_ok Tryz.memN Tryz.preB_ok) rE59
theorem okE56 : LAt Tryz.prog Go.Eng.Tryz.X0 5 507 E56 := Tryz.lat Tryz.memN (Tryz.evT_ok (Tryz.memC okE59 Tryz.memN) Tryz.preB_ok) rE56
theorem okE55 : EntryOk Tryz.prog E55 := entryI_ok (Tryz.evT_ok Tryz.memN (Tryz.preL5_507 (Tryz.memC okE56 Tryz.memN) Tryz.preB_ok)) rE55
theorem okE65 : EntryOk Tryz.prog E65 := entryI_ok (Tryz.evT_ok Tryz.memN Tryz.preB_ok) rE65
theorem okE64 : EntryOk Tryz.prog E64 := entryI_ok (Tryz.evT_ok (Tryz.memC okE65 Tryz.memN) Tryz.preB_ok) rE64
theorem okE66 : EntryOk Tryz.prog E66 := entryI_ok (Tryz.evT_ok Tryz.memN Tryz.preB_ok) rE66
theorem okE62 : EntryOk Tryz.prog E62 := entryI_ok (Tryz.evT_ok (Tryz.memC okE64 (Tryz.memC okE66 Tryz.memN)) Tryz.preB_ok) rE62
theorem okE67 : EntryOk Tryz.prog E67 := entryI_ok (Tryz.evT_ok Tryz.memN Tryz.preB_ok) rE67
theorem okE2 : EntryOk Tryz.prog E2 := entryI_ok (Tryz.evT_ok (Tryz.memC okE3 (Tryz.memC okE35 (Tryz.memC okE47 (Tryz.memC okE55 (Tryz.memC okE62 (Tryz.memC okE67 Tryz.memN)))))) Tryz.preB_ok) rE2
theorem okE77 : LAt Tryz.prog Go.Eng.Tryz.X0 20 5 E77 := Tryz.lat Tryz.memN (Tryz.evT_ok Tryz.memN Tryz.preB_ok) rE77
theorem okE76 : LAt Tryz.prog Go.Eng.Tryz.X0 20 5 E76 := Tryz.lat (Tryz.memC okE77 Tryz.memN) (Tryz.evT_ok Tryz.memN Tryz.preB_ok) rE76
theorem okE75 : LAt Tryz.prog Go.Eng.Tryz.X0 20 5 E75 := Tryz.lat (Tryz.memC okE76 Tryz.memN) (Tryz.evT_ok Tryz.memN Tryz.preB_ok) rE75
theorem okE74 : LAt Tryz.prog Go.Eng.Tryz.X0 20 5 E74 := Tryz.lat (Tryz.memC okE75 Tryz.memN) (Tryz.evT_ok Tryz.memN Tryz.preB_ok) rE74
theorem okE73 : LAt Tryz.prog Go.Eng.Tryz.X0 20 5 E73 := Tryz.lat (Tryz.memC okE74 Tryz.memN) (Tryz.evT_ok Tryz.memN Tryz.preB_ok) rE73
theorem okE72 : LAt Tryz.prog Go.Eng.Tryz.X0 20 5 E72 := Tryz.lat (Tryz.memC okE73 Tryz.memN) (Tryz.evT_ok Tryz.memN Tryz.preB_ok) rE72
theorem okE81 : LAt Tryz.prog Go.Eng.Tryz.X0 22 249 E81 := Tryz.lat Tryz.memN (Tryz.evT_ok Tryz.memN Tryz.preB_ok) rE81
theorem okE80 : LAt Tryz.prog Go.Eng.Tryz.X0 22 249 E80 := Tryz.lat (Tryz.memC okE81 Tryz.memN) (Tryz.evT_ok Tryz.memN Tryz.preB_ok) rE80
theorem okE79 : LAt Tryz.prog Go.Eng.Tryz.X0 22 249 E79 := Tryz.lat (Tryz.memC okE80 Tryz.memN) (Tryz.evT_ok Tryz.memN Tryz.preB_ok) rE79
theorem okE78 : EntryOk Tryz.prog E78 := entryI_ok (Tryz.evT_ok Tryz.memN (Tryz.preL22_249 (Tryz.memC okE79 Tryz.memN) Tryz.preB_ok)) rE78
theorem okE82 : LAt Tryz.prog Go.Eng.Tryz.X0 5 507 E82 := Tryz.lat Tryz.memN (Tryz.evT_ok Tryz.memN Tryz.preB_ok) rE82
theorem okE70 : EntryOk Tryz.prog E70 := entryI_ok (Tryz.evT_ok (Tryz.memC okE78 Tryz.memN) (Tryz.preL5_507 (Tryz.memC okE82 Tryz.memN) (Tryz.preL20_5 (Tryz.memC okE72 Tryz.memN) Tryz.preB_ok))) rE70
theorem okE87 : LAt Tryz.prog Go.Eng.Tryz.X0 20 5 E87 := Tryz.lat Tryz.memN (Tryz.evT_ok Tryz.memN Tryz.preB_ok) rE87
theorem okE86 : LAt Tryz.prog Go.Eng.Tryz.X0 20 5 E86 := Tryz.lat (Tryz.memC okE87 Tryz.memN) (Tryz.evT_ok Tryz.memN Tryz.preB_ok) rE86
theorem okE90 : LAt Tryz.prog Go.Eng.Tryz.X0 22 249 E90 := Tryz.lat Tryz.memN (Tryz.evT_ok Tryz.memN Tryz.preB_ok) rE90
theorem okE89 : LAt Tryz.prog Go.Eng.Tryz.X0 22 249 E89 := Tryz.lat (Tryz.memC okE90 Tryz.memN) (Tryz.evT_ok Tryz.memN Tryz.preB_ok) rE89
theorem okE88 : EntryOk Tryz.prog E88 := entryI_ok (Tryz.evT_ok Tryz.memN (Tryz.preL22_249 (Tryz.memC okE89 Tryz.memN) Tryz.preB_ok)) rE88
theorem okE84 : EntryOk Tryz.prog E84 := entryI_ok (Tryz.evT_ok (Tryz.memC okE88 Tryz.memN) (Tryz.preL20_5 (Tryz.memC okE86 Tryz.memN) Tryz.preB_ok)) rE84
theorem okE93 : EntryOk Tryz.prog E93 := entryI_ok (Tryz.evT_ok Tryz.memN Tryz.preB_ok) rE93
theorem okE92 : EntryOk Tryz.prog E92 := entryI_ok (Tryz.evT_ok (Tryz.memC okE93 Tryz.memN) Tryz.preB_ok) rE92
theorem okE68 : EntryOk Tryz.prog E68 := entryI_ok (Tryz.evT_ok (Tryz.memC okE70 (Tryz.memC okE84 (Tryz.memC okE92 Tryz.memN))) Tryz.preB_ok) rE68
theorem okE100 : LAt Tryz.prog Go.Eng.Tryz.X0 5 507 E100 := Tryz.lat Tryz.memN (Tryz.evT_ok Tryz.memN Tryz.preB_ok) rE100
theorem okE99 : LAt Tryz.prog Go.Eng.Tryz.X0 5 507 E99 := Tryz.lat (Tryz.memC okE100 Tryz.memN) (Tryz.evT_ok Tryz.memN Tryz.preB_ok) rE99
theorem okE98 : LAt Tryz.prog Go.Eng.Tryz.X0 5 507 E98 := Tryz.lat (Tryz.memC okE99 Tryz.memN) (Tryz.evT_ok Tryz.memN Tryz.preB_ok) rE98
theorem okE103 : LAt Tryz.prog Go.Eng.Tryz.X0 20 5 E103 := Tryz.lat Tryz.memN (Tryz.evT_ok Tryz.memN Tryz.preB_ok) rE103
theorem okE102 : LAt Tryz.prog Go.Eng.Tryz.X0 20 5 E102 := Tryz.lat (Tryz.memC okE103 Tryz.memN) (Tryz.evT_ok Tryz.memN Tryz.preB_ok) rE102
theorem okE106 : LAt Tryz.prog Go.Eng.Tryz.X0 22 249 E106 := Tryz.lat Tryz.memN (Tryz.evT_ok Tryz.memN Tryz.preB_ok) rE106
theorem okE105 : LAt Tryz.prog Go.Eng.Tryz.X0 22 249 E105 := Tryz.lat (Tryz.memC okE106 Tryz.memN) (Tryz.evT_ok Tryz.memN Tryz.preB_ok) rE105
theorem okE97 : EntryOk Tryz.prog E97 := entryI_ok (Tryz.evT_ok Tryz.memN (Tryz.preL22_249 (Tryz.memC okE105 Tryz.memN) (Tryz.preL20_5 (Tryz.memC okE102 Tryz.memN) (Tryz.preL5_507 (Tryz.memC okE98 Tryz.memN) Tryz.preB_ok)))) rE97
theorem okE109 : LAt Tryz.prog Go.Eng.Tryz.X0 5 507 E109 := Tryz.lat Tryz.memN (Tryz.evT_ok Tryz.memN Tryz.preB_ok) rE109
theorem okE108 : EntryOk Tryz.prog E108 := entryI_ok (Tryz.evT_ok Tryz.memN (Tryz.preL5_507 (Tryz.memC okE109 Tryz.memN) Tryz.preB_ok)) rE108
theorem okE110 : EntryOk Tryz.prog E110 := entryI_ok (Tryz.evT_ok Tryz.memN Tryz.preB_ok) rE110
theorem okE111 : EntryOk Tryz.prog E111 := entryI_ok (Tryz.evT_ok Tryz.memN Tryz.preB_ok) rE111
theorem okE112 : EntryOk Tryz.prog E112 := entryI_ok (Tryz.evT_ok Tryz.memN Tryz.preB_ok) rE112
theorem okE95 : EntryOk Tryz.prog E95 := entryI_ok (Tryz.evT_ok (Tryz.memC okE97 (Tryz.memC okE108 (Tryz.memC okE110 (Tryz.memC okE111 (Tryz.memC okE112 Tryz.memN))))) Tryz.preB_ok) rE95
theorem okE1 : EntryOk Tryz.prog E1 := entryI_ok (Tryz.evT_ok (Tryz.memC okE2 (Tryz.memC okE68 (Tryz.memC okE95 Tryz.memN))) Tryz.preB_ok) rE1
theorem evOk : EvOk Tryz.prog (Tryz.evT [E1] Tryz.preB) := (Tryz.evT_ok (Tryz.memC okE1 Tryz.memN) Tryz.preB_ok)
end TryzP
end Go.Proofs
