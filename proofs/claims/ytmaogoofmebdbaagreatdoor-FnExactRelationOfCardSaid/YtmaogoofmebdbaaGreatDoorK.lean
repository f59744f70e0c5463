/-
  All functions keep their contracts.
-/
import Derived.Test.YtmaogoofmebdbaaGreatDoorW0
import Derived.Test.YtmaogoofmebdbaaGreatDoorW1
import Derived.Test.YtmaogoofmebdbaaGreatDoorW2
import Derived.Test.YtmaogoofmebdbaaGreatDoorW3
namespace Go.Proofs.YtmaogoofmebdbaaGreatDoor
open Go Go.Sx
set_option maxRecDepth 100000
set_option linter.unusedVariables false
set_option linter.unusedSimpArgs false
theorem k_laws_big : SoundC Tryz.prog 5 c_laws_big := w_laws_big
theorem k_spec_l01Next : SoundC Tryz.prog 16 c_spec_l01Next := w_spec_l01Next
theorem k_spec_l03Sense : SoundC Tryz.prog 102 c_spec_l03Sense := w_spec_l03Sense
theorem k_spec_l02DrawAxis : SoundC Tryz.prog 122 c_spec_l02DrawAxis := w_spec_l02DrawAxis k_spec_l01Next
theorem k_spec_l02Draw : SoundC Tryz.prog 118 c_spec_l02Draw := w_spec_l02Draw k_spec_l02DrawAxis k_spec_l01Next
theorem k_spec_l03DrawTables : SoundC Tryz.prog 112 c_spec_l03DrawTables := w_spec_l03DrawTables k_spec_l02Draw
theorem k_spec_l03DrawArc : SoundC Tryz.prog 103 c_spec_l03DrawArc := w_spec_l03DrawArc k_spec_l01Next k_spec_l03DrawTables
theorem k_spec_l03Gate : SoundC Tryz.prog 94 c_spec_l03Gate := w_spec_l03Gate k_spec_l01Next k_spec_l03Sense k_spec_l03DrawArc
theorem k_spec_l03DrawFlop : SoundC Tryz.prog 95 c_spec_l03DrawFlop := w_spec_l03DrawFlop k_spec_l01Next k_spec_l03DrawArc
theorem k_spec_l03Draw : SoundC Tryz.prog 80 c_spec_l03Draw := w_spec_l03Draw k_spec_l03Gate k_spec_l03DrawFlop
theorem k_spec_l05Places : SoundC Tryz.prog 61 c_spec_l05Places := w_spec_l05Places
theorem k_spec_l05Sinks : SoundC Tryz.prog 83 c_spec_l05Sinks := w_spec_l05Sinks k_spec_l05Places
theorem k_spec_l07Lumped : SoundC Tryz.prog 96 c_spec_l07Lumped := w_spec_l07Lumped
theorem k_spec_l02Ints : SoundC Tryz.prog 97 c_spec_l02Ints := w_spec_l02Ints
theorem k_spec_l03Name : SoundC Tryz.prog 98 c_spec_l03Name := w_spec_l03Name
theorem k_spec_l01In : SoundC Tryz.prog 66 c_spec_l01In := w_spec_l01In
theorem k_spec_l14Plain : SoundC Tryz.prog 85 c_spec_l14Plain := w_spec_l14Plain k_spec_l03Name k_spec_l01In
theorem k_spec_l14Primary : SoundC Tryz.prog 86 c_spec_l14Primary := w_spec_l14Primary k_spec_l01In
theorem k_spec_l14Of : SoundC Tryz.prog 44 c_spec_l14Of := w_spec_l14Of
theorem k_spec_IsClocks : SoundC Tryz.prog 63 c_spec_IsClocks := w_spec_IsClocks k_spec_l14Plain k_spec_l14Primary k_spec_l01In k_spec_l14Of
theorem k_impl_within : SoundC Tryz.prog 74 c_impl_within := w_impl_within
theorem k_impl_Clock_isPrimary : SoundC Tryz.prog 90 c_impl_Clock_isPrimary := w_impl_Clock_isPrimary k_impl_within
theorem k_impl_waveOf : SoundC Tryz.prog 24 c_impl_waveOf := w_impl_waveOf
theorem k_impl_isClock : SoundC Tryz.prog 70 c_impl_isClock := w_impl_isClock k_impl_within k_impl_Clock_isPrimary k_impl_waveOf
theorem k_impl_isName : SoundC Tryz.prog 91 c_impl_isName := w_impl_isName k_impl_within k_strings_Trim k_strings_IndexByte
theorem k_slices_Index_Sstring_string : SoundC Tryz.prog 101 c_slices_Index_Sstring_string := w_slices_Index_Sstring_string
theorem k_slices_Contains_Sstring_string : SoundC Tryz.prog 92 c_slices_Contains_Sstring_string := w_slices_Contains_Sstring_string k_slices_Index_Sstring_string
theorem k_impl_areNames : SoundC Tryz.prog 71 c_impl_areNames := w_impl_areNames k_impl_isName k_slices_Contains_Sstring_string
theorem k_impl_IsClocks : SoundC Tryz.prog 46 c_impl_IsClocks := w_impl_IsClocks k_impl_isClock k_impl_areNames
theorem k_impl_length_impl_Clock : SoundC Tryz.prog 48 c_impl_length_impl_Clock := w_impl_length_impl_Clock
theorem k_impl_areWithin_c1 : SoundC Tryz.prog 73 c_impl_areWithin_c1 := w_impl_areWithin_c1 k_impl_within
theorem k_slices_IndexFunc_Sint64_int64_at_impl_areWithin_c1 : SoundC Tryz.prog 93 c_slices_IndexFunc_Sint64_int64_at_impl_areWithin_c1 := w_slices_IndexFunc_Sint64_int64_at_impl_areWithin_c1 k_impl_areWithin_c1
theorem k_slices_ContainsFunc_Sint64_int64_at_impl_areWithin_c1 : SoundC Tryz.prog 72 c_slices_ContainsFunc_Sint64_int64_at_impl_areWithin_c1 := w_slices_ContainsFunc_Sint64_int64_at_impl_areWithin_c1 k_slices_IndexFunc_Sint64_int64_at_impl_areWithin_c1
theorem k_impl_areWithin : SoundC Tryz.prog 47 c_impl_areWithin := w_impl_areWithin k_slices_ContainsFunc_Sint64_int64_at_impl_areWithin_c1
theorem k_impl_clockCode : SoundC Tryz.prog 23 c_impl_clockCode := w_impl_clockCode k_impl_IsClocks k_impl_length_impl_Clock k_impl_areWithin
theorem k_impl_isTransition : SoundC Tryz.prog 38 c_impl_isTransition := w_impl_isTransition
theorem k_impl_rootOf : SoundC Tryz.prog 39 c_impl_rootOf := w_impl_rootOf
theorem k_impl_gcd : SoundC Tryz.prog 64 c_impl_gcd := w_impl_gcd
theorem k_impl_hyperPeriod : SoundC Tryz.prog 40 c_impl_hyperPeriod := w_impl_hyperPeriod k_impl_waveOf k_impl_gcd
theorem k_impl_edgesOf : SoundC Tryz.prog 17 c_impl_edgesOf := w_impl_edgesOf k_impl_clockCode k_impl_isTransition k_impl_rootOf k_impl_waveOf k_impl_hyperPeriod
theorem k_impl_modulo : SoundC Tryz.prog 87 c_impl_modulo := w_impl_modulo
theorem k_impl_wave_next : SoundC Tryz.prog 65 c_impl_wave_next := w_impl_wave_next k_impl_modulo
theorem k_impl_edges_pairs : SoundC Tryz.prog 41 c_impl_edges_pairs := w_impl_edges_pairs k_impl_wave_next
theorem k_impl_edges_setup : SoundC Tryz.prog 18 c_impl_edges_setup := w_impl_edges_setup k_impl_edges_pairs
theorem k_impl_edges_hold : SoundC Tryz.prog 19 c_impl_edges_hold := w_impl_edges_hold k_impl_edges_pairs
theorem k_impl_RelationOf : SoundC Tryz.prog 7 c_impl_RelationOf := w_impl_RelationOf k_impl_edgesOf k_impl_edges_setup k_impl_edges_hold
theorem k_spec_l14Root : SoundC Tryz.prog 67 c_spec_l14Root := w_spec_l14Root
theorem k_spec_l14Gcd : SoundC Tryz.prog 88 c_spec_l14Gcd := w_spec_l14Gcd
theorem k_spec_l14Hyper : SoundC Tryz.prog 68 c_spec_l14Hyper := w_spec_l14Hyper k_spec_l14Of k_spec_l14Gcd
theorem k_spec_l15Code : SoundC Tryz.prog 42 c_spec_l15Code := w_spec_l15Code k_spec_IsClocks k_spec_l01In k_spec_l14Root k_spec_l14Hyper k_spec_l14Of
theorem k_spec_l14Edge : SoundC Tryz.prog 89 c_spec_l14Edge := w_spec_l14Edge
theorem k_spec_l14After : SoundC Tryz.prog 69 c_spec_l14After := w_spec_l14After k_spec_l14Edge
theorem k_spec_l15Pairs : SoundC Tryz.prog 43 c_spec_l15Pairs := w_spec_l15Pairs k_spec_l14Hyper k_spec_l14Of k_spec_l14After
theorem k_spec_SetupSeparation : SoundC Tryz.prog 20 c_spec_SetupSeparation := w_spec_SetupSeparation k_spec_l15Code k_spec_l15Pairs
theorem k_spec_HoldSeparation : SoundC Tryz.prog 21 c_spec_HoldSeparation := w_spec_HoldSeparation k_spec_l15Code k_spec_l15Pairs k_spec_l14Of
theorem k_spec_l14Code : SoundC Tryz.prog 45 c_spec_l14Code := w_spec_l14Code k_spec_IsClocks k_spec_l01In
theorem k_spec_UncertaintyOf : SoundC Tryz.prog 22 c_spec_UncertaintyOf := w_spec_UncertaintyOf k_spec_l14Code
theorem k_spec_RelationOf : SoundC Tryz.prog 8 c_spec_RelationOf := w_spec_RelationOf k_spec_SetupSeparation k_spec_HoldSeparation k_spec_UncertaintyOf
theorem k_impl_WaveOf : SoundC Tryz.prog 9 c_impl_WaveOf := w_impl_WaveOf k_impl_clockCode k_impl_waveOf
theorem k_laws_szClock : SoundC Tryz.prog 49 c_laws_szClock := w_laws_szClock
theorem k_laws_szClockS : SoundC Tryz.prog 25 c_laws_szClockS := w_laws_szClockS k_laws_szClock
theorem k_laws_szExternalS : SoundC Tryz.prog 26 c_laws_szExternalS := w_laws_szExternalS
theorem k_laws_szInt64S : SoundC Tryz.prog 75 c_laws_szInt64S := w_laws_szInt64S
theorem k_laws_szException : SoundC Tryz.prog 50 c_laws_szException := w_laws_szException k_laws_szInt64S
theorem k_laws_szExceptionS : SoundC Tryz.prog 27 c_laws_szExceptionS := w_laws_szExceptionS k_laws_szException
theorem k_laws_szCorner : SoundC Tryz.prog 51 c_laws_szCorner := w_laws_szCorner
theorem k_laws_szCornerS : SoundC Tryz.prog 28 c_laws_szCornerS := w_laws_szCornerS k_laws_szCorner
theorem k_laws_szSetup : SoundC Tryz.prog 10 c_laws_szSetup := w_laws_szSetup k_laws_szClockS k_laws_szExternalS k_laws_szExceptionS k_laws_szCornerS
theorem k_laws_toClock : SoundC Tryz.prog 52 c_laws_toClock := w_laws_toClock
theorem k_laws_toClockS : SoundC Tryz.prog 29 c_laws_toClockS := w_laws_toClockS k_laws_toClock
theorem k_laws_toSpan : SoundC Tryz.prog 76 c_laws_toSpan := w_laws_toSpan
theorem k_laws_toExternal : SoundC Tryz.prog 53 c_laws_toExternal := w_laws_toExternal k_laws_toSpan
theorem k_laws_toExternalS : SoundC Tryz.prog 30 c_laws_toExternalS := w_laws_toExternalS k_laws_toExternal
theorem k_laws_toInt64S : SoundC Tryz.prog 77 c_laws_toInt64S := w_laws_toInt64S
theorem k_laws_toException : SoundC Tryz.prog 54 c_laws_toException := w_laws_toException k_laws_toInt64S
theorem k_laws_toExceptionS : SoundC Tryz.prog 31 c_laws_toExceptionS := w_laws_toExceptionS k_laws_toException
theorem k_laws_toCorner : SoundC Tryz.prog 55 c_laws_toCorner := w_laws_toCorner
theorem k_laws_toCornerS : SoundC Tryz.prog 32 c_laws_toCornerS := w_laws_toCornerS k_laws_toCorner
theorem k_laws_toSetup : SoundC Tryz.prog 11 c_laws_toSetup := w_laws_toSetup k_laws_toClockS k_laws_toExternalS k_laws_toExceptionS k_laws_toCornerS
theorem k_laws_eqRelation : SoundC Tryz.prog 12 c_laws_eqRelation := w_laws_eqRelation
theorem k_laws_eqClock : SoundC Tryz.prog 56 c_laws_eqClock := w_laws_eqClock
theorem k_laws_eqClockS : SoundC Tryz.prog 33 c_laws_eqClockS := w_laws_eqClockS k_laws_eqClock
theorem k_laws_eqSpan : SoundC Tryz.prog 78 c_laws_eqSpan := w_laws_eqSpan
theorem k_laws_eqExternal : SoundC Tryz.prog 57 c_laws_eqExternal := w_laws_eqExternal k_laws_eqSpan
theorem k_laws_eqExternalS : SoundC Tryz.prog 34 c_laws_eqExternalS := w_laws_eqExternalS k_laws_eqExternal
theorem k_laws_eqInt64S : SoundC Tryz.prog 79 c_laws_eqInt64S := w_laws_eqInt64S
theorem k_laws_eqException : SoundC Tryz.prog 58 c_laws_eqException := w_laws_eqException k_laws_eqInt64S
theorem k_laws_eqExceptionS : SoundC Tryz.prog 35 c_laws_eqExceptionS := w_laws_eqExceptionS k_laws_eqException
theorem k_laws_eqCorner : SoundC Tryz.prog 59 c_laws_eqCorner := w_laws_eqCorner
theorem k_laws_eqCornerS : SoundC Tryz.prog 36 c_laws_eqCornerS := w_laws_eqCornerS k_laws_eqCorner
theorem k_laws_eqSetup : SoundC Tryz.prog 13 c_laws_eqSetup := w_laws_eqSetup k_laws_eqClockS k_laws_eqExternalS k_laws_eqExceptionS k_laws_eqCornerS
theorem k_laws_FnExactRelationOf : SoundC Tryz.prog 4 c_laws_FnExactRelationOf := w_laws_FnExactRelationOf k_laws_szSetup k_laws_toSetup k_spec_RelationOf k_impl_RelationOf k_laws_eqRelation k_laws_eqSetup
end Go.Proofs.YtmaogoofmebdbaaGreatDoor
