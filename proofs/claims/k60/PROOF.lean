import PyProof.Rows.All
import Wide.All
import OpenK.AllK
import Wide.FinOn
import HandS.ForMost
import HandS.Words
import HandS.Defaults
import HandS.Head2
import KE.KSuper
import KE.KOpsOwn
import HandS.More
import HandS.Star
import HandS.MethStar
import HandS.Property
import HandS.Nested
import HandS.Exc
import KE.KDictCopyH
import KE.KDictKeyed
import KE.KTupTabMore
import HandS.DictTup
import HandS.IterVal
import HandS.DictComp
import HandS.Conv
import HandS.Walk
import HandS.TupLen
import HandS.ListItems
import HandS.OwnEq
import KE.KDictZip
import KE.KTupSum
import KE.GoesEnum
import HandS.Zip
import HandS.RaiseMore
import HandS.SortKw
import KE.DataMinMax
import HandS.TupMul
import HandS.TupAny
import HandS.IsInst
import HandS.Style
import HandS.Strs
import HandS.SetKeys
import HandS.TupSets
import HandS.Wide
import HandS.WideBits
import HandS.Codes
import HandS.Flow
import HandS.Set
import HandS.TupLe
import HandS.NoneIn
import HandS.WordsList
import HandS.WordsDict
import HandS.Remove
import HandS.DeepEq
import HandS.HeadHook1
import HandS.ReCall
import HandS.SetFor
import HandS.HeadEnd
import PySem.Challenge.RW_headskip_k60_whole_questions_go_together
set_option Elab.async false
set_option linter.all false
set_option maxRecDepth 100000
/-! The text by its places: the defs and classes that are reached. -/
namespace Hs
open PySem PySem.Spec PyProof.Rows L2
def top (i : Nat) : Stmt := PySem.Challenge.pw_headskip_k60_whole_questions_go_together.main.body.getD i (.Pass ⟨0, 0, 0, 0⟩)
inductive Cl where
  | cChange | cFilter | cCompared | cLess | cAtMost | cSame | cPicked | cAmong | cMissing | cFixed | cAlways | cNever | cTurned | cJoined | cBoth | cEither | cLots | cQuestion | cSome | cMany | cAtLeast | cOfColumn | cGreatest | cLeast | cTotal | cTop
  deriving DecidableEq
def Cl.nm : Cl → Str
  | .cChange => "Change"
  | .cFilter => "Filter"
  | .cCompared => "Compared"
  | .cLess => "Less"
  | .cAtMost => "AtMost"
  | .cSame => "Same"
  | .cPicked => "Picked"
  | .cAmong => "Among"
  | .cMissing => "Missing"
  | .cFixed => "Fixed"
  | .cAlways => "Always"
  | .cNever => "Never"
  | .cTurned => "Turned"
  | .cJoined => "Joined"
  | .cBoth => "Both"
  | .cEither => "Either"
  | .cLots => "Lots"
  | .cQuestion => "Question"
  | .cSome => "Some"
  | .cMany => "Many"
  | .cAtLeast => "AtLeast"
  | .cOfColumn => "OfColumn"
  | .cGreatest => "Greatest"
  | .cLeast => "Least"
  | .cTotal => "Total"
  | .cTop => "Top"
def Cl.all : List Cl := [.cChange, .cFilter, .cCompared, .cLess, .cAtMost, .cSame, .cPicked, .cAmong, .cMissing, .cFixed, .cAlways, .cNever, .cTurned, .cJoined, .cBoth, .cEither, .cLots, .cQuestion, .cSome, .cMany, .cAtLeast, .cOfColumn, .cGreatest, .cLeast, .cTotal, .cTop]
inductive Df where
  | dis_name | dis_integer | dis_value | dis_below | dis_ahead | dascending_rows | dascending_names | dnot_of | dside_at | dChange_init | dChange_side | djoined_links | dFilter_init | dFilter_columns | dFilter_constants | dFilter_links | dFilter_leaves | dFilter_judged | dFilter_len | dFilter_and | dFilter_or | dFilter_invert | dFilter_mirrored | dFilter_led | dneeded | dCompared_init | dCompared_is_so | dCompared_judged | dCompared_led | dLess_is_so | dAtMost_is_so | dcompared | dPicked_init | dAmong_init | dAmong_judged | dAmong_led | dMissing_init | dMissing_judged | dMissing_led | dFixed_init | dFixed_judged | dTurned_init | dTurned_leaves | dTurned_judged | dTurned_led | dTurned_invert | dJoined_init | dJoined_leaves | dJoined_led | dBoth_judged | dEither_judged | djoined | dis_row | dis_pair | dneed_pairs | djoined_pairs | dLots_init | dLots_iter | dLots_len | dLots_add | dneed_many | dneed_columns | dare_names | dare_rows | dQuestion_init | dQuestion_columns | dQuestion_told | dQuestion_joined | dQuestion_matches | dQuestion_on | dSome_init | dSome_told | dSome_joined | dMany_init | dAtLeast_init | dAtLeast_told | dOfColumn_init | dGreatest_init | dGreatest_told | dGreatest_joined | dLeast_init | dLeast_told | dLeast_joined | dTotal_init | dTotal_told | dTop_init | dTop_told | dTop_joined | dlaw_pen | dlaw_draw | dlaw_pick | dlaw_drawn_test | dlaw_test | dlaw_drawn_pairs | dlaw_lots | dlaw_negated | dlaw_rows_right | dlaw_values_right | dlaw_turned_right | dlaw_right | dlaw
  deriving DecidableEq
def Df.all0 : List Df := [.dis_name, .dis_integer, .dis_value, .dis_below, .dis_ahead, .dascending_rows, .dascending_names, .dnot_of, .dside_at, .dChange_init, .dChange_side, .djoined_links, .dFilter_init, .dFilter_columns, .dFilter_constants, .dFilter_links, .dFilter_leaves, .dFilter_judged, .dFilter_len, .dFilter_and]
def Df.all1 : List Df := [.dFilter_or, .dFilter_invert, .dFilter_mirrored, .dFilter_led, .dneeded, .dCompared_init, .dCompared_is_so, .dCompared_judged, .dCompared_led, .dLess_is_so, .dAtMost_is_so, .dcompared, .dPicked_init, .dAmong_init, .dAmong_judged, .dAmong_led, .dMissing_init, .dMissing_judged, .dMissing_led, .dFixed_init]
def Df.all2 : List Df := [.dFixed_judged, .dTurned_init, .dTurned_leaves, .dTurned_judged, .dTurned_led, .dTurned_invert, .dJoined_init, .dJoined_leaves, .dJoined_led, .dBoth_judged, .dEither_judged, .djoined, .dis_row, .dis_pair, .dneed_pairs, .djoined_pairs, .dLots_init, .dLots_iter, .dLots_len, .dLots_add]
def Df.all3 : List Df := [.dneed_many, .dneed_columns, .dare_names, .dare_rows, .dQuestion_init, .dQuestion_columns, .dQuestion_told, .dQuestion_joined, .dQuestion_matches, .dQuestion_on, .dSome_init, .dSome_told, .dSome_joined, .dMany_init, .dAtLeast_init, .dAtLeast_told, .dOfColumn_init, .dGreatest_init, .dGreatest_told, .dGreatest_joined]
def Df.all4 : List Df := [.dLeast_init, .dLeast_told, .dLeast_joined, .dTotal_init, .dTotal_told, .dTop_init, .dTop_told, .dTop_joined, .dlaw_pen, .dlaw_draw, .dlaw_pick, .dlaw_drawn_test, .dlaw_test, .dlaw_drawn_pairs, .dlaw_lots, .dlaw_negated, .dlaw_rows_right, .dlaw_values_right, .dlaw_turned_right, .dlaw_right]
def Df.all5 : List Df := [.dlaw]
def Df.all : List Df := Df.all0 ++ Df.all1 ++ Df.all2 ++ Df.all3 ++ Df.all4 ++ Df.all5
def Df.nm : Df → Str
  | .dis_name => "is_name"
  | .dis_integer => "is_integer"
  | .dis_value => "is_value"
  | .dis_below => "is_below"
  | .dis_ahead => "is_ahead"
  | .dascending_rows => "ascending_rows"
  | .dascending_names => "ascending_names"
  | .dnot_of => "not_of"
  | .dside_at => "side_at"
  | .dChange_init => "__init__"
  | .dChange_side => "side"
  | .djoined_links => "joined_links"
  | .dFilter_init => "__init__"
  | .dFilter_columns => "columns"
  | .dFilter_constants => "constants"
  | .dFilter_links => "links"
  | .dFilter_leaves => "leaves"
  | .dFilter_judged => "judged"
  | .dFilter_len => "__len__"
  | .dFilter_and => "__and__"
  | .dFilter_or => "__or__"
  | .dFilter_invert => "__invert__"
  | .dFilter_mirrored => "mirrored"
  | .dFilter_led => "led"
  | .dneeded => "needed"
  | .dCompared_init => "__init__"
  | .dCompared_is_so => "is_so"
  | .dCompared_judged => "judged"
  | .dCompared_led => "led"
  | .dLess_is_so => "is_so"
  | .dAtMost_is_so => "is_so"
  | .dcompared => "compared"
  | .dPicked_init => "__init__"
  | .dAmong_init => "__init__"
  | .dAmong_judged => "judged"
  | .dAmong_led => "led"
  | .dMissing_init => "__init__"
  | .dMissing_judged => "judged"
  | .dMissing_led => "led"
  | .dFixed_init => "__init__"
  | .dFixed_judged => "judged"
  | .dTurned_init => "__init__"
  | .dTurned_leaves => "leaves"
  | .dTurned_judged => "judged"
  | .dTurned_led => "led"
  | .dTurned_invert => "__invert__"
  | .dJoined_init => "__init__"
  | .dJoined_leaves => "leaves"
  | .dJoined_led => "led"
  | .dBoth_judged => "judged"
  | .dEither_judged => "judged"
  | .djoined => "joined"
  | .dis_row => "is_row"
  | .dis_pair => "is_pair"
  | .dneed_pairs => "need_pairs"
  | .djoined_pairs => "joined_pairs"
  | .dLots_init => "__init__"
  | .dLots_iter => "__iter__"
  | .dLots_len => "__len__"
  | .dLots_add => "__add__"
  | .dneed_many => "need_many"
  | .dneed_columns => "need_columns"
  | .dare_names => "are_names"
  | .dare_rows => "are_rows"
  | .dQuestion_init => "__init__"
  | .dQuestion_columns => "columns"
  | .dQuestion_told => "told"
  | .dQuestion_joined => "joined"
  | .dQuestion_matches => "matches"
  | .dQuestion_on => "on"
  | .dSome_init => "__init__"
  | .dSome_told => "told"
  | .dSome_joined => "joined"
  | .dMany_init => "__init__"
  | .dAtLeast_init => "__init__"
  | .dAtLeast_told => "told"
  | .dOfColumn_init => "__init__"
  | .dGreatest_init => "__init__"
  | .dGreatest_told => "told"
  | .dGreatest_joined => "joined"
  | .dLeast_init => "__init__"
  | .dLeast_told => "told"
  | .dLeast_joined => "joined"
  | .dTotal_init => "__init__"
  | .dTotal_told => "told"
  | .dTop_init => "__init__"
  | .dTop_told => "told"
  | .dTop_joined => "joined"
  | .dlaw_pen => "_law_pen"
  | .dlaw_draw => "_law_draw"
  | .dlaw_pick => "_law_pick"
  | .dlaw_drawn_test => "_law_drawn_test"
  | .dlaw_test => "_law_test"
  | .dlaw_drawn_pairs => "_law_drawn_pairs"
  | .dlaw_lots => "_law_lots"
  | .dlaw_negated => "_law_negated"
  | .dlaw_rows_right => "_law_rows_right"
  | .dlaw_values_right => "_law_values_right"
  | .dlaw_turned_right => "_law_turned_right"
  | .dlaw_right => "_law_right"
  | .dlaw => "law"
def Df.qual : Df → Str
  | .dis_name => "is_name"
  | .dis_integer => "is_integer"
  | .dis_value => "is_value"
  | .dis_below => "is_below"
  | .dis_ahead => "is_ahead"
  | .dascending_rows => "ascending_rows"
  | .dascending_names => "ascending_names"
  | .dnot_of => "not_of"
  | .dside_at => "side_at"
  | .dChange_init => "Change.__init__"
  | .dChange_side => "Change.side"
  | .djoined_links => "joined_links"
  | .dFilter_init => "Filter.__init__"
  | .dFilter_columns => "Filter.columns"
  | .dFilter_constants => "Filter.constants"
  | .dFilter_links => "Filter.links"
  | .dFilter_leaves => "Filter.leaves"
  | .dFilter_judged => "Filter.judged"
  | .dFilter_len => "Filter.__len__"
  | .dFilter_and => "Filter.__and__"
  | .dFilter_or => "Filter.__or__"
  | .dFilter_invert => "Filter.__invert__"
  | .dFilter_mirrored => "Filter.mirrored"
  | .dFilter_led => "Filter.led"
  | .dneeded => "needed"
  | .dCompared_init => "Compared.__init__"
  | .dCompared_is_so => "Compared.is_so"
  | .dCompared_judged => "Compared.judged"
  | .dCompared_led => "Compared.led"
  | .dLess_is_so => "Less.is_so"
  | .dAtMost_is_so => "AtMost.is_so"
  | .dcompared => "compared"
  | .dPicked_init => "Picked.__init__"
  | .dAmong_init => "Among.__init__"
  | .dAmong_judged => "Among.judged"
  | .dAmong_led => "Among.led"
  | .dMissing_init => "Missing.__init__"
  | .dMissing_judged => "Missing.judged"
  | .dMissing_led => "Missing.led"
  | .dFixed_init => "Fixed.__init__"
  | .dFixed_judged => "Fixed.judged"
  | .dTurned_init => "Turned.__init__"
  | .dTurned_leaves => "Turned.leaves"
  | .dTurned_judged => "Turned.judged"
  | .dTurned_led => "Turned.led"
  | .dTurned_invert => "Turned.__invert__"
  | .dJoined_init => "Joined.__init__"
  | .dJoined_leaves => "Joined.leaves"
  | .dJoined_led => "Joined.led"
  | .dBoth_judged => "Both.judged"
  | .dEither_judged => "Either.judged"
  | .djoined => "joined"
  | .dis_row => "is_row"
  | .dis_pair => "is_pair"
  | .dneed_pairs => "need_pairs"
  | .djoined_pairs => "joined_pairs"
  | .dLots_init => "Lots.__init__"
  | .dLots_iter => "Lots.__iter__"
  | .dLots_len => "Lots.__len__"
  | .dLots_add => "Lots.__add__"
  | .dneed_many => "need_many"
  | .dneed_columns => "need_columns"
  | .dare_names => "are_names"
  | .dare_rows => "are_rows"
  | .dQuestion_init => "Question.__init__"
  | .dQuestion_columns => "Question.columns"
  | .dQuestion_told => "Question.told"
  | .dQuestion_joined => "Question.joined"
  | .dQuestion_matches => "Question.matches"
  | .dQuestion_on => "Question.on"
  | .dSome_init => "Some.__init__"
  | .dSome_told => "Some.told"
  | .dSome_joined => "Some.joined"
  | .dMany_init => "Many.__init__"
  | .dAtLeast_init => "AtLeast.__init__"
  | .dAtLeast_told => "AtLeast.told"
  | .dOfColumn_init => "OfColumn.__init__"
  | .dGreatest_init => "Greatest.__init__"
  | .dGreatest_told => "Greatest.told"
  | .dGreatest_joined => "Greatest.joined"
  | .dLeast_init => "Least.__init__"
  | .dLeast_told => "Least.told"
  | .dLeast_joined => "Least.joined"
  | .dTotal_init => "Total.__init__"
  | .dTotal_told => "Total.told"
  | .dTop_init => "Top.__init__"
  | .dTop_told => "Top.told"
  | .dTop_joined => "Top.joined"
  | .dlaw_pen => "_law_pen"
  | .dlaw_draw => "_law_draw"
  | .dlaw_pick => "_law_pick"
  | .dlaw_drawn_test => "_law_drawn_test"
  | .dlaw_test => "_law_test"
  | .dlaw_drawn_pairs => "_law_drawn_pairs"
  | .dlaw_lots => "_law_lots"
  | .dlaw_negated => "_law_negated"
  | .dlaw_rows_right => "_law_rows_right"
  | .dlaw_values_right => "_law_values_right"
  | .dlaw_turned_right => "_law_turned_right"
  | .dlaw_right => "_law_right"
  | .dlaw => "law"
abbrev Df.st : Df → Stmt
  | .dis_name => top 18
  | .dis_integer => top 19
  | .dis_value => top 20
  | .dis_below => top 22
  | .dis_ahead => top 23
  | .dascending_rows => top 24
  | .dascending_names => top 25
  | .dnot_of => top 41
  | .dside_at => top 42
  | .dChange_init => inClass (top 43) 0
  | .dChange_side => inClass (top 43) 1
  | .djoined_links => top 44
  | .dFilter_init => inClass (top 48) 0
  | .dFilter_columns => inClass (top 48) 2
  | .dFilter_constants => inClass (top 48) 3
  | .dFilter_links => inClass (top 48) 4
  | .dFilter_leaves => inClass (top 48) 5
  | .dFilter_judged => inClass (top 48) 6
  | .dFilter_len => inClass (top 48) 9
  | .dFilter_and => inClass (top 48) 10
  | .dFilter_or => inClass (top 48) 11
  | .dFilter_invert => inClass (top 48) 12
  | .dFilter_mirrored => inClass (top 48) 15
  | .dFilter_led => inClass (top 48) 16
  | .dneeded => top 49
  | .dCompared_init => inClass (top 50) 1
  | .dCompared_is_so => inClass (top 50) 2
  | .dCompared_judged => inClass (top 50) 3
  | .dCompared_led => inClass (top 50) 4
  | .dLess_is_so => inClass (top 51) 1
  | .dAtMost_is_so => inClass (top 52) 1
  | .dcompared => top 54
  | .dPicked_init => inClass (top 55) 0
  | .dAmong_init => inClass (top 56) 0
  | .dAmong_judged => inClass (top 56) 1
  | .dAmong_led => inClass (top 56) 2
  | .dMissing_init => inClass (top 57) 0
  | .dMissing_judged => inClass (top 57) 1
  | .dMissing_led => inClass (top 57) 2
  | .dFixed_init => inClass (top 58) 1
  | .dFixed_judged => inClass (top 58) 2
  | .dTurned_init => inClass (top 61) 0
  | .dTurned_leaves => inClass (top 61) 1
  | .dTurned_judged => inClass (top 61) 2
  | .dTurned_led => inClass (top 61) 3
  | .dTurned_invert => inClass (top 61) 4
  | .dJoined_init => inClass (top 62) 1
  | .dJoined_leaves => inClass (top 62) 2
  | .dJoined_led => inClass (top 62) 3
  | .dBoth_judged => inClass (top 63) 1
  | .dEither_judged => inClass (top 64) 1
  | .djoined => top 65
  | .dis_row => top 72
  | .dis_pair => top 73
  | .dneed_pairs => top 74
  | .djoined_pairs => top 75
  | .dLots_init => inClass (top 78) 0
  | .dLots_iter => inClass (top 78) 3
  | .dLots_len => inClass (top 78) 4
  | .dLots_add => inClass (top 78) 6
  | .dneed_many => top 89
  | .dneed_columns => top 90
  | .dare_names => top 91
  | .dare_rows => top 92
  | .dQuestion_init => inClass (top 93) 1
  | .dQuestion_columns => inClass (top 93) 3
  | .dQuestion_told => inClass (top 93) 4
  | .dQuestion_joined => inClass (top 93) 5
  | .dQuestion_matches => inClass (top 93) 6
  | .dQuestion_on => inClass (top 93) 7
  | .dSome_init => inClass (top 94) 1
  | .dSome_told => inClass (top 94) 2
  | .dSome_joined => inClass (top 94) 3
  | .dMany_init => inClass (top 95) 1
  | .dAtLeast_init => inClass (top 96) 1
  | .dAtLeast_told => inClass (top 96) 2
  | .dOfColumn_init => inClass (top 97) 1
  | .dGreatest_init => inClass (top 98) 1
  | .dGreatest_told => inClass (top 98) 2
  | .dGreatest_joined => inClass (top 98) 3
  | .dLeast_init => inClass (top 99) 1
  | .dLeast_told => inClass (top 99) 2
  | .dLeast_joined => inClass (top 99) 3
  | .dTotal_init => inClass (top 100) 1
  | .dTotal_told => inClass (top 100) 2
  | .dTop_init => inClass (top 101) 1
  | .dTop_told => inClass (top 101) 2
  | .dTop_joined => inClass (top 101) 3
  | .dlaw_pen => top 106
  | .dlaw_draw => top 107
  | .dlaw_pick => top 108
  | .dlaw_drawn_test => top 109
  | .dlaw_test => top 111
  | .dlaw_drawn_pairs => top 113
  | .dlaw_lots => top 114
  | .dlaw_negated => top 115
  | .dlaw_rows_right => top 116
  | .dlaw_values_right => top 117
  | .dlaw_turned_right => top 118
  | .dlaw_right => top 119
  | .dlaw => top 120
def Df.sup : Df → Option Cl
  | .dis_name => none
  | .dis_integer => none
  | .dis_value => none
  | .dis_below => none
  | .dis_ahead => none
  | .dascending_rows => none
  | .dascending_names => none
  | .dnot_of => none
  | .dside_at => none
  | .dChange_init => none
  | .dChange_side => none
  | .djoined_links => none
  | .dFilter_init => none
  | .dFilter_columns => none
  | .dFilter_constants => none
  | .dFilter_links => none
  | .dFilter_leaves => none
  | .dFilter_judged => none
  | .dFilter_len => none
  | .dFilter_and => none
  | .dFilter_or => none
  | .dFilter_invert => none
  | .dFilter_mirrored => none
  | .dFilter_led => none
  | .dneeded => none
  | .dCompared_init => some .cCompared
  | .dCompared_is_so => none
  | .dCompared_judged => none
  | .dCompared_led => none
  | .dLess_is_so => none
  | .dAtMost_is_so => none
  | .dcompared => none
  | .dPicked_init => some .cPicked
  | .dAmong_init => some .cAmong
  | .dAmong_judged => none
  | .dAmong_led => none
  | .dMissing_init => some .cMissing
  | .dMissing_judged => none
  | .dMissing_led => none
  | .dFixed_init => some .cFixed
  | .dFixed_judged => none
  | .dTurned_init => some .cTurned
  | .dTurned_leaves => none
  | .dTurned_judged => none
  | .dTurned_led => none
  | .dTurned_invert => none
  | .dJoined_init => some .cJoined
  | .dJoined_leaves => none
  | .dJoined_led => none
  | .dBoth_judged => none
  | .dEither_judged => none
  | .djoined => none
  | .dis_row => none
  | .dis_pair => none
  | .dneed_pairs => none
  | .djoined_pairs => none
  | .dLots_init => none
  | .dLots_iter => none
  | .dLots_len => none
  | .dLots_add => none
  | .dneed_many => none
  | .dneed_columns => none
  | .dare_names => none
  | .dare_rows => none
  | .dQuestion_init => none
  | .dQuestion_columns => none
  | .dQuestion_told => none
  | .dQuestion_joined => none
  | .dQuestion_matches => none
  | .dQuestion_on => none
  | .dSome_init => some .cSome
  | .dSome_told => none
  | .dSome_joined => none
  | .dMany_init => some .cMany
  | .dAtLeast_init => some .cAtLeast
  | .dAtLeast_told => none
  | .dOfColumn_init => some .cOfColumn
  | .dGreatest_init => some .cGreatest
  | .dGreatest_told => none
  | .dGreatest_joined => none
  | .dLeast_init => some .cLeast
  | .dLeast_told => none
  | .dLeast_joined => none
  | .dTotal_init => some .cTotal
  | .dTotal_told => none
  | .dTop_init => some .cTop
  | .dTop_told => none
  | .dTop_joined => none
  | .dlaw_pen => none
  | .dlaw_draw => none
  | .dlaw_pick => none
  | .dlaw_drawn_test => none
  | .dlaw_test => none
  | .dlaw_drawn_pairs => none
  | .dlaw_lots => none
  | .dlaw_negated => none
  | .dlaw_rows_right => none
  | .dlaw_values_right => none
  | .dlaw_turned_right => none
  | .dlaw_right => none
  | .dlaw => none
inductive Mt where
  | madd | mand | minit | minvert | miter | mlen | mor | mcolumns | mconstants | mis_so | mjoined | mjudged | mleaves | mled | mlinks | mmatches | mmirrored | mon | mside | mtold
  deriving DecidableEq
def Mt.nm : Mt → Str
  | .madd => "__add__"
  | .mand => "__and__"
  | .minit => "__init__"
  | .minvert => "__invert__"
  | .miter => "__iter__"
  | .mlen => "__len__"
  | .mor => "__or__"
  | .mcolumns => "columns"
  | .mconstants => "constants"
  | .mis_so => "is_so"
  | .mjoined => "joined"
  | .mjudged => "judged"
  | .mleaves => "leaves"
  | .mled => "led"
  | .mlinks => "links"
  | .mmatches => "matches"
  | .mmirrored => "mirrored"
  | .mon => "on"
  | .mside => "side"
  | .mtold => "told"
def Mt.all : List Mt := [.madd, .mand, .minit, .minvert, .miter, .mlen, .mor, .mcolumns, .mconstants, .mis_so, .mjoined, .mjudged, .mleaves, .mled, .mlinks, .mmatches, .mmirrored, .mon, .mside, .mtold]
def look (c : Cl) (m : Mt) : Option Df := match c with
  | .cChange => (match m with
    | .minit => some .dChange_init
    | .mside => some .dChange_side
    | _ => none)
  | .cFilter => (match m with
    | .mand => some .dFilter_and
    | .minit => some .dFilter_init
    | .minvert => some .dFilter_invert
    | .mlen => some .dFilter_len
    | .mor => some .dFilter_or
    | .mjudged => some .dFilter_judged
    | .mleaves => some .dFilter_leaves
    | .mled => some .dFilter_led
    | .mmirrored => some .dFilter_mirrored
    | _ => none)
  | .cCompared => (match m with
    | .mand => some .dFilter_and
    | .minit => some .dCompared_init
    | .minvert => some .dFilter_invert
    | .mlen => some .dFilter_len
    | .mor => some .dFilter_or
    | .mis_so => some .dCompared_is_so
    | .mjudged => some .dCompared_judged
    | .mleaves => some .dFilter_leaves
    | .mled => some .dCompared_led
    | .mmirrored => some .dFilter_mirrored
    | _ => none)
  | .cLess => (match m with
    | .mand => some .dFilter_and
    | .minit => some .dCompared_init
    | .minvert => some .dFilter_invert
    | .mlen => some .dFilter_len
    | .mor => some .dFilter_or
    | .mis_so => some .dLess_is_so
    | .mjudged => some .dCompared_judged
    | .mleaves => some .dFilter_leaves
    | .mled => some .dCompared_led
    | .mmirrored => some .dFilter_mirrored
    | _ => none)
  | .cAtMost => (match m with
    | .mand => some .dFilter_and
    | .minit => some .dCompared_init
    | .minvert => some .dFilter_invert
    | .mlen => some .dFilter_len
    | .mor => some .dFilter_or
    | .mis_so => some .dAtMost_is_so
    | .mjudged => some .dCompared_judged
    | .mleaves => some .dFilter_leaves
    | .mled => some .dCompared_led
    | .mmirrored => some .dFilter_mirrored
    | _ => none)
  | .cSame => (match m with
    | .mand => some .dFilter_and
    | .minit => some .dCompared_init
    | .minvert => some .dFilter_invert
    | .mlen => some .dFilter_len
    | .mor => some .dFilter_or
    | .mis_so => some .dCompared_is_so
    | .mjudged => some .dCompared_judged
    | .mleaves => some .dFilter_leaves
    | .mled => some .dCompared_led
    | .mmirrored => some .dFilter_mirrored
    | _ => none)
  | .cPicked => (match m with
    | .mand => some .dFilter_and
    | .minit => some .dPicked_init
    | .minvert => some .dFilter_invert
    | .mlen => some .dFilter_len
    | .mor => some .dFilter_or
    | .mjudged => some .dFilter_judged
    | .mleaves => some .dFilter_leaves
    | .mled => some .dFilter_led
    | .mmirrored => some .dFilter_mirrored
    | _ => none)
  | .cAmong => (match m with
    | .mand => some .dFilter_and
    | .minit => some .dAmong_init
    | .minvert => some .dFilter_invert
    | .mlen => some .dFilter_len
    | .mor => some .dFilter_or
    | .mjudged => some .dAmong_judged
    | .mleaves => some .dFilter_leaves
    | .mled => some .dAmong_led
    | .mmirrored => some .dFilter_mirrored
    | _ => none)
  | .cMissing => (match m with
    | .mand => some .dFilter_and
    | .minit => some .dMissing_init
    | .minvert => some .dFilter_invert
    | .mlen => some .dFilter_len
    | .mor => some .dFilter_or
    | .mjudged => some .dMissing_judged
    | .mleaves => some .dFilter_leaves
    | .mled => some .dMissing_led
    | .mmirrored => some .dFilter_mirrored
    | _ => none)
  | .cFixed => (match m with
    | .mand => some .dFilter_and
    | .minit => some .dFixed_init
    | .minvert => some .dFilter_invert
    | .mlen => some .dFilter_len
    | .mor => some .dFilter_or
    | .mjudged => some .dFixed_judged
    | .mleaves => some .dFilter_leaves
    | .mled => some .dFilter_led
    | .mmirrored => some .dFilter_mirrored
    | _ => none)
  | .cAlways => (match m with
    | .mand => some .dFilter_and
    | .minit => some .dFixed_init
    | .minvert => some .dFilter_invert
    | .mlen => some .dFilter_len
    | .mor => some .dFilter_or
    | .mjudged => some .dFixed_judged
    | .mleaves => some .dFilter_leaves
    | .mled => some .dFilter_led
    | .mmirrored => some .dFilter_mirrored
    | _ => none)
  | .cNever => (match m with
    | .mand => some .dFilter_and
    | .minit => some .dFixed_init
    | .minvert => some .dFilter_invert
    | .mlen => some .dFilter_len
    | .mor => some .dFilter_or
    | .mjudged => some .dFixed_judged
    | .mleaves => some .dFilter_leaves
    | .mled => some .dFilter_led
    | .mmirrored => some .dFilter_mirrored
    | _ => none)
  | .cTurned => (match m with
    | .mand => some .dFilter_and
    | .minit => some .dTurned_init
    | .minvert => some .dTurned_invert
    | .mlen => some .dFilter_len
    | .mor => some .dFilter_or
    | .mjudged => some .dTurned_judged
    | .mleaves => some .dTurned_leaves
    | .mled => some .dTurned_led
    | .mmirrored => some .dFilter_mirrored
    | _ => none)
  | .cJoined => (match m with
    | .mand => some .dFilter_and
    | .minit => some .dJoined_init
    | .minvert => some .dFilter_invert
    | .mlen => some .dFilter_len
    | .mor => some .dFilter_or
    | .mjudged => some .dFilter_judged
    | .mleaves => some .dJoined_leaves
    | .mled => some .dJoined_led
    | .mmirrored => some .dFilter_mirrored
    | _ => none)
  | .cBoth => (match m with
    | .mand => some .dFilter_and
    | .minit => some .dJoined_init
    | .minvert => some .dFilter_invert
    | .mlen => some .dFilter_len
    | .mor => some .dFilter_or
    | .mjudged => some .dBoth_judged
    | .mleaves => some .dJoined_leaves
    | .mled => some .dJoined_led
    | .mmirrored => some .dFilter_mirrored
    | _ => none)
  | .cEither => (match m with
    | .mand => some .dFilter_and
    | .minit => some .dJoined_init
    | .minvert => some .dFilter_invert
    | .mlen => some .dFilter_len
    | .mor => some .dFilter_or
    | .mjudged => some .dEither_judged
    | .mleaves => some .dJoined_leaves
    | .mled => some .dJoined_led
    | .mmirrored => some .dFilter_mirrored
    | _ => none)
  | .cLots => (match m with
    | .madd => some .dLots_add
    | .minit => some .dLots_init
    | .miter => some .dLots_iter
    | .mlen => some .dLots_len
    | _ => none)
  | .cQuestion => (match m with
    | .minit => some .dQuestion_init
    | .mjoined => some .dQuestion_joined
    | .mmatches => some .dQuestion_matches
    | .mon => some .dQuestion_on
    | .mtold => some .dQuestion_told
    | _ => none)
  | .cSome => (match m with
    | .minit => some .dSome_init
    | .mjoined => some .dSome_joined
    | .mmatches => some .dQuestion_matches
    | .mon => some .dQuestion_on
    | .mtold => some .dSome_told
    | _ => none)
  | .cMany => (match m with
    | .minit => some .dMany_init
    | .mjoined => some .dQuestion_joined
    | .mmatches => some .dQuestion_matches
    | .mon => some .dQuestion_on
    | .mtold => some .dQuestion_told
    | _ => none)
  | .cAtLeast => (match m with
    | .minit => some .dAtLeast_init
    | .mmatches => some .dQuestion_matches
    | .mon => some .dQuestion_on
    | .mtold => some .dAtLeast_told
    | _ => none)
  | .cOfColumn => (match m with
    | .minit => some .dOfColumn_init
    | .mjoined => some .dQuestion_joined
    | .mmatches => some .dQuestion_matches
    | .mon => some .dQuestion_on
    | .mtold => some .dQuestion_told
    | _ => none)
  | .cGreatest => (match m with
    | .minit => some .dGreatest_init
    | .mjoined => some .dGreatest_joined
    | .mmatches => some .dQuestion_matches
    | .mon => some .dQuestion_on
    | .mtold => some .dGreatest_told
    | _ => none)
  | .cLeast => (match m with
    | .minit => some .dLeast_init
    | .mjoined => some .dLeast_joined
    | .mmatches => some .dQuestion_matches
    | .mon => some .dQuestion_on
    | .mtold => some .dLeast_told
    | _ => none)
  | .cTotal => (match m with
    | .minit => some .dTotal_init
    | .mjoined => some .dQuestion_joined
    | .mmatches => some .dQuestion_matches
    | .mon => some .dQuestion_on
    | .mtold => some .dTotal_told
    | _ => none)
  | .cTop => (match m with
    | .minit => some .dTop_init
    | .mjoined => some .dTop_joined
    | .mmatches => some .dQuestion_matches
    | .mon => some .dQuestion_on
    | .mtold => some .dTop_told
    | _ => none)
end Hs
set_option Elab.async false
set_option linter.all false
set_option maxRecDepth 100000
set_option maxHeartbeats 4000000
/-! The objects that the run's end holds, as far as they are asked (printed by gf.py). -/
namespace Hs
open PySem PySem.Spec PyProof.Rows L2
def clo (Z : Cl → Addr) (d : Df) : List (Str × Addr) := match d.sup with
  | none => []
  | some c => [("__class__", Z c)]
def ob1 (P : Params) : List (Addr × Obj) := [
  (3, ⟨.type "dict", none, .dict #[⟨PyData.keyHash P (.ofString "__name__"), .str (.ofString "__name__") 165, .str (.ofString "law_headskip_k60_whole_questions_go_together") 2405⟩,
    ⟨PyData.keyHash P (.ofString "__doc__"), .str (.ofString "__doc__") 166, .none⟩,
    ⟨PyData.keyHash P (.ofString "__package__"), .str (.ofString "__package__") 167, .none⟩,
    ⟨PyData.keyHash P (.ofString "__loader__"), .str (.ofString "__loader__") 168, .builtin "__main__.__loader__#opaque"⟩,
    ⟨PyData.keyHash P (.ofString "__spec__"), .str (.ofString "__spec__") 169, .none⟩,
    ⟨PyData.keyHash P (.ofString "__annotations__"), .str (.ofString "__annotations__") 170, .ref 6⟩,
    ⟨PyData.keyHash P (.ofString "__builtins__"), .str (.ofString "__builtins__") 171, .ref 4⟩,
    ⟨PyData.keyHash P (.ofString "__file__"), .str (.ofString "__file__") 173, .str (.ofString "/claim/cut.py") 172⟩,
    ⟨PyData.keyHash P (.ofString "__cached__"), .str (.ofString "__cached__") 174, .none⟩,
    ⟨PyData.keyHash P (.ofString "_wall"), .str (.ofString "_wall") 193, .ref 21⟩,
    ⟨PyData.keyHash P (.ofString "SkipError"), .str (.ofString "SkipError") 213, .ref 31⟩,
    ⟨PyData.keyHash P (.ofString "BadName"), .str (.ofString "BadName") 240, .ref 53⟩,
    ⟨PyData.keyHash P (.ofString "BadFilter"), .str (.ofString "BadFilter") 267, .ref 74⟩,
    ⟨PyData.keyHash P (.ofString "BadRow"), .str (.ofString "BadRow") 294, .ref 95⟩,
    ⟨PyData.keyHash P (.ofString "BadLots"), .str (.ofString "BadLots") 321, .ref 116⟩,
    ⟨PyData.keyHash P (.ofString "BadShelf"), .str (.ofString "BadShelf") 348, .ref 137⟩,
    ⟨PyData.keyHash P (.ofString "BadTable"), .str (.ofString "BadTable") 375, .ref 158⟩,
    ⟨PyData.keyHash P (.ofString "BadQuestion"), .str (.ofString "BadQuestion") 402, .ref 179⟩,
    ⟨PyData.keyHash P (.ofString "BadText"), .str (.ofString "BadText") 431, .ref 200⟩,
    ⟨PyData.keyHash P (.ofString "NoName"), .str (.ofString "NoName") 458, .ref 221⟩,
    ⟨PyData.keyHash P (.ofString "NoBlock"), .str (.ofString "NoBlock") 485, .ref 242⟩,
    ⟨PyData.keyHash P (.ofString "TooMany"), .str (.ofString "TooMany") 514, .ref 263⟩,
    ⟨PyData.keyHash P (.ofString "LETTERS"), .str (.ofString "LETTERS") 518, .str (.ofString "abcdefghijklmnopqrstuvwxyz") 517⟩,
    ⟨PyData.keyHash P (.ofString "MOST_LETTERS"), .str (.ofString "MOST_LETTERS") 520, .int 8 519⟩,
    ⟨PyData.keyHash P (.ofString "WORDS"), .str (.ofString "WORDS") 530, .ref 266⟩,
    ⟨PyData.keyHash P (.ofString "is_name"), .str (.ofString "is_name") 536, .ref 271⟩,
    ⟨PyData.keyHash P (.ofString "is_integer"), .str (.ofString "is_integer") 543, .ref 278⟩,
    ⟨PyData.keyHash P (.ofString "is_value"), .str (.ofString "is_value") 550, .ref 285⟩,
    ⟨PyData.keyHash P (.ofString "is_index"), .str (.ofString "is_index") 558, .ref 292⟩,
    ⟨PyData.keyHash P (.ofString "is_below"), .str (.ofString "is_below") 566, .ref 299⟩,
    ⟨PyData.keyHash P (.ofString "is_ahead"), .str (.ofString "is_ahead") 576, .ref 306⟩,
    ⟨PyData.keyHash P (.ofString "ascending_rows"), .str (.ofString "ascending_rows") 582, .ref 311⟩,
    ⟨PyData.keyHash P (.ofString "ascending_names"), .str (.ofString "ascending_names") 588, .ref 316⟩,
    ⟨PyData.keyHash P (.ofString "FIGURES"), .str (.ofString "FIGURES") 592, .str (.ofString "0123456789") 591⟩,
    ⟨PyData.keyHash P (.ofString "integer_in"), .str (.ofString "integer_in") 598, .ref 321⟩,
    ⟨PyData.keyHash P (.ofString "Words"), .str (.ofString "Words") 689, .ref 396⟩,
    ⟨PyData.keyHash P (.ofString "MOST_LISTED"), .str (.ofString "MOST_LISTED") 693, .int 4 692⟩,
    ⟨PyData.keyHash P (.ofString "MOST_OPEN"), .str (.ofString "MOST_OPEN") 695, .int 7 694⟩,
    ⟨PyData.keyHash P (.ofString "take_side"), .str (.ofString "take_side") 705, .ref 407⟩,
    ⟨PyData.keyHash P (.ofString "take_list"), .str (.ofString "take_list") 713, .ref 414⟩,
    ⟨PyData.keyHash P (.ofString "take_leaf"), .str (.ofString "take_leaf") 722, .ref 421⟩,
    ⟨PyData.keyHash P (.ofString "take_head"), .str (.ofString "take_head") 732, .ref 428⟩,
    ⟨PyData.keyHash P (.ofString "take_filter"), .str (.ofString "take_filter") 742, .ref 435⟩,
    ⟨PyData.keyHash P (.ofString "MOST_LINKED"), .str (.ofString "MOST_LINKED") 746, .int 2 745⟩,
    ⟨PyData.keyHash P (.ofString "need_row"), .str (.ofString "need_row") 752, .ref 440⟩,
    ⟨PyData.keyHash P (.ofString "not_of"), .str (.ofString "not_of") 759, .ref 447⟩,
    ⟨PyData.keyHash P (.ofString "side_at"), .str (.ofString "side_at") 767, .ref 454⟩,
    ⟨PyData.keyHash P (.ofString "Change"), .str (.ofString "Change") 808, .ref 478⟩,
    ⟨PyData.keyHash P (.ofString "joined_links"), .str (.ofString "joined_links") 814, .ref 487⟩,
    ⟨PyData.keyHash P (.ofString "MOST_COMPARISONS"), .str (.ofString "MOST_COMPARISONS") 818, .int 8 817⟩,
    ⟨PyData.keyHash P (.ofString "MOST_CONSTANTS"), .str (.ofString "MOST_CONSTANTS") 820, .int 4 819⟩,
    ⟨PyData.keyHash P (.ofString "Filter"), .str (.ofString "Filter") 987, .ref 620⟩,
    ⟨PyData.keyHash P (.ofString "needed"), .str (.ofString "needed") 994, .ref 631⟩,
    ⟨PyData.keyHash P (.ofString "Compared"), .str (.ofString "Compared") 1067, .ref 683⟩,
    ⟨PyData.keyHash P (.ofString "Less"), .str (.ofString "Less") 1094, .ref 702⟩,
    ⟨PyData.keyHash P (.ofString "AtMost"), .str (.ofString "AtMost") 1121, .ref 721⟩,
    ⟨PyData.keyHash P (.ofString "Same"), .str (.ofString "Same") 1139, .ref 733⟩,
    ⟨PyData.keyHash P (.ofString "compared"), .str (.ofString "compared") 1148, .ref 742⟩,
    ⟨PyData.keyHash P (.ofString "Picked"), .str (.ofString "Picked") 1176, .ref 761⟩,
    ⟨PyData.keyHash P (.ofString "Among"), .str (.ofString "Among") 1230, .ref 804⟩,
    ⟨PyData.keyHash P (.ofString "Missing"), .str (.ofString "Missing") 1288, .ref 853⟩,
    ⟨PyData.keyHash P (.ofString "Fixed"), .str (.ofString "Fixed") 1338, .ref 895⟩,
    ⟨PyData.keyHash P (.ofString "Always"), .str (.ofString "Always") 1355, .ref 907⟩,
    ⟨PyData.keyHash P (.ofString "Never"), .str (.ofString "Never") 1371, .ref 919⟩,
    ⟨PyData.keyHash P (.ofString "Turned"), .str (.ofString "Turned") 1444, .ref 982⟩,
    ⟨PyData.keyHash P (.ofString "Joined"), .str (.ofString "Joined") 1503, .ref 1029⟩,
    ⟨PyData.keyHash P (.ofString "Both"), .str (.ofString "Both") 1531, .ref 1048⟩,
    ⟨PyData.keyHash P (.ofString "Either"), .str (.ofString "Either") 1559, .ref 1067⟩,
    ⟨PyData.keyHash P (.ofString "joined"), .str (.ofString "joined") 1568, .ref 1076⟩,
    ⟨PyData.keyHash P (.ofString "leaf_of"), .str (.ofString "leaf_of") 1578, .ref 1083⟩,
    ⟨PyData.keyHash P (.ofString "with_part"), .str (.ofString "with_part") 1586, .ref 1090⟩,
    ⟨PyData.keyHash P (.ofString "made_of"), .str (.ofString "made_of") 1598, .ref 1097⟩,
    ⟨PyData.keyHash P (.ofString "MOST_PAIRS"), .str (.ofString "MOST_PAIRS") 1602, .int 40 1601⟩,
    ⟨PyData.keyHash P (.ofString "MOST_WIDTH"), .str (.ofString "MOST_WIDTH") 1604, .int 3 1603⟩,
    ⟨PyData.keyHash P (.ofString "is_row"), .str (.ofString "is_row") 1610, .ref 1102⟩,
    ⟨PyData.keyHash P (.ofString "is_pair"), .str (.ofString "is_pair") 1617, .ref 1109⟩,
    ⟨PyData.keyHash P (.ofString "need_pairs"), .str (.ofString "need_pairs") 1626, .ref 1116⟩,
    ⟨PyData.keyHash P (.ofString "joined_pairs"), .str (.ofString "joined_pairs") 1632, .ref 1121⟩,
    ⟨PyData.keyHash P (.ofString "value_text"), .str (.ofString "value_text") 1639, .ref 1128⟩,
    ⟨PyData.keyHash P (.ofString "pair_text"), .str (.ofString "pair_text") 1645, .ref 1133⟩,
    ⟨PyData.keyHash P (.ofString "Lots"), .str (.ofString "Lots") 1781, .ref 1224⟩,
    ⟨PyData.keyHash P (.ofString "take_value"), .str (.ofString "take_value") 1788, .ref 1235⟩,
    ⟨PyData.keyHash P (.ofString "take_later"), .str (.ofString "take_later") 1799, .ref 1242⟩,
    ⟨PyData.keyHash P (.ofString "take_row"), .str (.ofString "take_row") 1810, .ref 1249⟩,
    ⟨PyData.keyHash P (.ofString "take_pair"), .str (.ofString "take_pair") 1819, .ref 1256⟩,
    ⟨PyData.keyHash P (.ofString "MOST_BLOCKS"), .str (.ofString "MOST_BLOCKS") 1823, .int 6 1822⟩,
    ⟨PyData.keyHash P (.ofString "Table"), .str (.ofString "Table") 1894, .ref 1308⟩,
    ⟨PyData.keyHash P (.ofString "MOST_COLUMNS"), .str (.ofString "MOST_COLUMNS") 1898, .int 3 1897⟩,
    ⟨PyData.keyHash P (.ofString "MOST_TOP"), .str (.ofString "MOST_TOP") 1900, .int 4 1899⟩,
    ⟨PyData.keyHash P (.ofString "need_many"), .str (.ofString "need_many") 1908, .ref 1319⟩,
    ⟨PyData.keyHash P (.ofString "need_columns"), .str (.ofString "need_columns") 1917, .ref 1326⟩,
    ⟨PyData.keyHash P (.ofString "are_names"), .str (.ofString "are_names") 1923, .ref 1331⟩,
    ⟨PyData.keyHash P (.ofString "are_rows"), .str (.ofString "are_rows") 1929, .ref 1336⟩,
    ⟨PyData.keyHash P (.ofString "Question"), .str (.ofString "Question") 2053, .ref 1416⟩,
    ⟨PyData.keyHash P (.ofString "Some"), .str (.ofString "Some") 2097, .ref 1453⟩,
    ⟨PyData.keyHash P (.ofString "Many"), .str (.ofString "Many") 2125, .ref 1474⟩,
    ⟨PyData.keyHash P (.ofString "AtLeast"), .str (.ofString "AtLeast") 2175, .ref 1514⟩,
    ⟨PyData.keyHash P (.ofString "OfColumn"), .str (.ofString "OfColumn") 2212, .ref 1542⟩,
    ⟨PyData.keyHash P (.ofString "Greatest"), .str (.ofString "Greatest") 2253, .ref 1573⟩,
    ⟨PyData.keyHash P (.ofString "Least"), .str (.ofString "Least") 2294, .ref 1604⟩,
    ⟨PyData.keyHash P (.ofString "Total"), .str (.ofString "Total") 2329, .ref 1630⟩,
    ⟨PyData.keyHash P (.ofString "Top"), .str (.ofString "Top") 2378, .ref 1668⟩,
    ⟨PyData.keyHash P (.ofString "many_in"), .str (.ofString "many_in") 2387, .ref 1677⟩,
    ⟨PyData.keyHash P (.ofString "question_in"), .str (.ofString "question_in") 2398, .ref 1684⟩,
    ⟨PyData.keyHash P (.ofString "made_question"), .str (.ofString "made_question") 2404, .ref 1689⟩,
    ⟨PyData.keyHash P (.ofString "_law_pen"), .str (.ofString "_law_pen") 2413, .ref 1696⟩,
    ⟨PyData.keyHash P (.ofString "_law_draw"), .str (.ofString "_law_draw") 2426, .ref 1703⟩,
    ⟨PyData.keyHash P (.ofString "_law_pick"), .str (.ofString "_law_pick") 2434, .ref 1710⟩,
    ⟨PyData.keyHash P (.ofString "_law_drawn_test"), .str (.ofString "_law_drawn_test") 2440, .ref 1715⟩,
    ⟨PyData.keyHash P (.ofString "_law_truth"), .str (.ofString "_law_truth") 2454, .ref 1722⟩,
    ⟨PyData.keyHash P (.ofString "_law_test"), .str (.ofString "_law_test") 2465, .ref 1729⟩,
    ⟨PyData.keyHash P (.ofString "_law_matches"), .str (.ofString "_law_matches") 2471, .ref 1734⟩,
    ⟨PyData.keyHash P (.ofString "_law_drawn_pairs"), .str (.ofString "_law_drawn_pairs") 2477, .ref 1739⟩,
    ⟨PyData.keyHash P (.ofString "_law_lots"), .str (.ofString "_law_lots") 2486, .ref 1746⟩,
    ⟨PyData.keyHash P (.ofString "_law_negated"), .str (.ofString "_law_negated") 2492, .ref 1751⟩,
    ⟨PyData.keyHash P (.ofString "_law_rows_right"), .str (.ofString "_law_rows_right") 2507, .ref 1758⟩,
    ⟨PyData.keyHash P (.ofString "_law_values_right"), .str (.ofString "_law_values_right") 2523, .ref 1765⟩,
    ⟨PyData.keyHash P (.ofString "_law_turned_right"), .str (.ofString "_law_turned_right") 2537, .ref 1772⟩,
    ⟨PyData.keyHash P (.ofString "_law_right"), .str (.ofString "_law_right") 2543, .ref 1777⟩,
    ⟨PyData.keyHash P (.ofString "law"), .str (.ofString "law") 2552, .ref 1784⟩] 120, #[]⟩),
  (2, ⟨.none, none, .dict #[] 0, #[]⟩),
  (266, ⟨.type "tuple", none, .seq #[.str (.ofString "always") 521, .str (.ofString "and") 522, .str (.ofString "in") 523, .str (.ofString "never") 524, .str (.ofString "not") 525, .str (.ofString "null") 526, .str (.ofString "or") 527, .str (.ofString "rows") 528, .str (.ofString "self") 529] 0, #[]⟩)]
def ob2 (P : Params) : List (Addr × Obj) := [
  (478, ⟨.type "type", none, .cls ⟨(.ofString "Change"), [.type "object"], [.ref 478, .type "object"], 477, (.ofString "Change"), true, [], [], false, none, false⟩, #[none, none, some (.str (.ofString "Change") 768), some (.str (.ofString "Change") 776), some (.builtin "object.__new__"), some (.bool true)]⟩),
  (620, ⟨.type "type", none, .cls ⟨(.ofString "Filter"), [.type "object"], [.ref 620, .type "object"], 619, (.ofString "Filter"), true, [], [.ref 683, .ref 761, .ref 895, .ref 982, .ref 1029], false, none, false⟩, #[none, none, some (.str (.ofString "Filter") 821), some (.str (.ofString "Filter") 829), some (.builtin "object.__new__"), some (.bool true)]⟩),
  (683, ⟨.type "type", none, .cls ⟨(.ofString "Compared"), [.ref 620], [.ref 683, .ref 620, .type "object"], 682, (.ofString "Compared"), true, [], [.ref 702, .ref 721, .ref 733], false, none, false⟩, #[some (.ref 632), none, some (.str (.ofString "Compared") 995), some (.str (.ofString "Compared") 1003), some (.builtin "object.__new__"), some (.bool true)]⟩),
  (702, ⟨.type "type", none, .cls ⟨(.ofString "Less"), [.ref 683], [.ref 702, .ref 683, .ref 620, .type "object"], 701, (.ofString "Less"), true, [], [], false, none, false⟩, #[some (.ref 686), none, some (.str (.ofString "Less") 1068), some (.str (.ofString "Less") 1076), some (.builtin "object.__new__"), some (.bool true)]⟩),
  (721, ⟨.type "type", none, .cls ⟨(.ofString "AtMost"), [.ref 683], [.ref 721, .ref 683, .ref 620, .type "object"], 720, (.ofString "AtMost"), true, [], [], false, none, false⟩, #[some (.ref 705), none, some (.str (.ofString "AtMost") 1095), some (.str (.ofString "AtMost") 1103), some (.builtin "object.__new__"), some (.bool true)]⟩),
  (733, ⟨.type "type", none, .cls ⟨(.ofString "Same"), [.ref 683], [.ref 733, .ref 683, .ref 620, .type "object"], 732, (.ofString "Same"), true, [], [], false, none, false⟩, #[some (.ref 724), none, some (.str (.ofString "Same") 1122), some (.str (.ofString "Same") 1130), some (.builtin "object.__new__"), some (.bool true)]⟩),
  (761, ⟨.type "type", none, .cls ⟨(.ofString "Picked"), [.ref 620], [.ref 761, .ref 620, .type "object"], 760, (.ofString "Picked"), true, [], [.ref 804, .ref 853], false, none, false⟩, #[some (.ref 743), none, some (.str (.ofString "Picked") 1149), some (.str (.ofString "Picked") 1157), some (.builtin "object.__new__"), some (.bool true)]⟩),
  (804, ⟨.type "type", none, .cls ⟨(.ofString "Among"), [.ref 761], [.ref 804, .ref 761, .ref 620, .type "object"], 803, (.ofString "Among"), true, [], [], false, none, false⟩, #[some (.ref 764), none, some (.str (.ofString "Among") 1177), some (.str (.ofString "Among") 1185), some (.builtin "object.__new__"), some (.bool true)]⟩),
  (853, ⟨.type "type", none, .cls ⟨(.ofString "Missing"), [.ref 761], [.ref 853, .ref 761, .ref 620, .type "object"], 852, (.ofString "Missing"), true, [], [], false, none, false⟩, #[some (.ref 807), none, some (.str (.ofString "Missing") 1231), some (.str (.ofString "Missing") 1239), some (.builtin "object.__new__"), some (.bool true)]⟩),
  (895, ⟨.type "type", none, .cls ⟨(.ofString "Fixed"), [.ref 620], [.ref 895, .ref 620, .type "object"], 894, (.ofString "Fixed"), true, [], [.ref 907, .ref 919], false, none, false⟩, #[some (.ref 856), none, some (.str (.ofString "Fixed") 1289), some (.str (.ofString "Fixed") 1297), some (.builtin "object.__new__"), some (.bool true)]⟩),
  (907, ⟨.type "type", none, .cls ⟨(.ofString "Always"), [.ref 895], [.ref 907, .ref 895, .ref 620, .type "object"], 906, (.ofString "Always"), true, [], [], false, none, false⟩, #[some (.ref 898), none, some (.str (.ofString "Always") 1339), some (.str (.ofString "Always") 1347), some (.builtin "object.__new__"), some (.bool true)]⟩),
  (919, ⟨.type "type", none, .cls ⟨(.ofString "Never"), [.ref 895], [.ref 919, .ref 895, .ref 620, .type "object"], 918, (.ofString "Never"), true, [], [], false, none, false⟩, #[some (.ref 910), none, some (.str (.ofString "Never") 1356), some (.str (.ofString "Never") 1364), some (.builtin "object.__new__"), some (.bool true)]⟩),
  (982, ⟨.type "type", none, .cls ⟨(.ofString "Turned"), [.ref 620], [.ref 982, .ref 620, .type "object"], 981, (.ofString "Turned"), true, [], [], false, none, false⟩, #[some (.ref 922), none, some (.str (.ofString "Turned") 1372), some (.str (.ofString "Turned") 1380), some (.builtin "object.__new__"), some (.bool true)]⟩),
  (1029, ⟨.type "type", none, .cls ⟨(.ofString "Joined"), [.ref 620], [.ref 1029, .ref 620, .type "object"], 1028, (.ofString "Joined"), true, [], [.ref 1048, .ref 1067], false, none, false⟩, #[some (.ref 985), none, some (.str (.ofString "Joined") 1445), some (.str (.ofString "Joined") 1453), some (.builtin "object.__new__"), some (.bool true)]⟩),
  (1048, ⟨.type "type", none, .cls ⟨(.ofString "Both"), [.ref 1029], [.ref 1048, .ref 1029, .ref 620, .type "object"], 1047, (.ofString "Both"), true, [], [], false, none, false⟩, #[some (.ref 1032), none, some (.str (.ofString "Both") 1504), some (.str (.ofString "Both") 1512), some (.builtin "object.__new__"), some (.bool true)]⟩),
  (1067, ⟨.type "type", none, .cls ⟨(.ofString "Either"), [.ref 1029], [.ref 1067, .ref 1029, .ref 620, .type "object"], 1066, (.ofString "Either"), true, [], [], false, none, false⟩, #[some (.ref 1051), none, some (.str (.ofString "Either") 1532), some (.str (.ofString "Either") 1540), some (.builtin "object.__new__"), some (.bool true)]⟩),
  (1224, ⟨.type "type", none, .cls ⟨(.ofString "Lots"), [.type "object"], [.ref 1224, .type "object"], 1223, (.ofString "Lots"), true, [], [], false, none, false⟩, #[none, none, some (.str (.ofString "Lots") 1646), some (.str (.ofString "Lots") 1654), some (.builtin "object.__new__"), some (.bool true)]⟩),
  (1416, ⟨.type "type", none, .cls ⟨(.ofString "Question"), [.type "object"], [.ref 1416, .type "object"], 1415, (.ofString "Question"), true, [], [.ref 1453, .ref 1474, .ref 1514, .ref 1542], false, none, false⟩, #[none, none, some (.str (.ofString "Question") 1930), some (.str (.ofString "Question") 1938), some (.builtin "object.__new__"), some (.bool true)]⟩),
  (1453, ⟨.type "type", none, .cls ⟨(.ofString "Some"), [.ref 1416], [.ref 1453, .ref 1416, .type "object"], 1452, (.ofString "Some"), true, [], [], false, none, false⟩, #[some (.ref 1421), none, some (.str (.ofString "Some") 2054), some (.str (.ofString "Some") 2062), some (.builtin "object.__new__"), some (.bool true)]⟩),
  (1474, ⟨.type "type", none, .cls ⟨(.ofString "Many"), [.ref 1416], [.ref 1474, .ref 1416, .type "object"], 1473, (.ofString "Many"), true, [], [], false, none, false⟩, #[some (.ref 1456), none, some (.str (.ofString "Many") 2098), some (.str (.ofString "Many") 2106), some (.builtin "object.__new__"), some (.bool true)]⟩)]
def ob3 (P : Params) : List (Addr × Obj) := [
  (1514, ⟨.type "type", none, .cls ⟨(.ofString "AtLeast"), [.ref 1416], [.ref 1514, .ref 1416, .type "object"], 1513, (.ofString "AtLeast"), true, [], [], false, none, false⟩, #[some (.ref 1477), none, some (.str (.ofString "AtLeast") 2126), some (.str (.ofString "AtLeast") 2134), some (.builtin "object.__new__"), some (.bool true)]⟩),
  (1542, ⟨.type "type", none, .cls ⟨(.ofString "OfColumn"), [.ref 1416], [.ref 1542, .ref 1416, .type "object"], 1541, (.ofString "OfColumn"), true, [], [.ref 1573, .ref 1604, .ref 1630, .ref 1668], false, none, false⟩, #[some (.ref 1517), none, some (.str (.ofString "OfColumn") 2176), some (.str (.ofString "OfColumn") 2184), some (.builtin "object.__new__"), some (.bool true)]⟩),
  (1573, ⟨.type "type", none, .cls ⟨(.ofString "Greatest"), [.ref 1542], [.ref 1573, .ref 1542, .ref 1416, .type "object"], 1572, (.ofString "Greatest"), true, [], [], false, none, false⟩, #[some (.ref 1545), none, some (.str (.ofString "Greatest") 2213), some (.str (.ofString "Greatest") 2221), some (.builtin "object.__new__"), some (.bool true)]⟩),
  (1604, ⟨.type "type", none, .cls ⟨(.ofString "Least"), [.ref 1542], [.ref 1604, .ref 1542, .ref 1416, .type "object"], 1603, (.ofString "Least"), true, [], [], false, none, false⟩, #[some (.ref 1576), none, some (.str (.ofString "Least") 2254), some (.str (.ofString "Least") 2262), some (.builtin "object.__new__"), some (.bool true)]⟩),
  (1630, ⟨.type "type", none, .cls ⟨(.ofString "Total"), [.ref 1542], [.ref 1630, .ref 1542, .ref 1416, .type "object"], 1629, (.ofString "Total"), true, [], [], false, none, false⟩, #[some (.ref 1607), none, some (.str (.ofString "Total") 2295), some (.str (.ofString "Total") 2303), some (.builtin "object.__new__"), some (.bool true)]⟩),
  (1668, ⟨.type "type", none, .cls ⟨(.ofString "Top"), [.ref 1542], [.ref 1668, .ref 1542, .ref 1416, .type "object"], 1667, (.ofString "Top"), true, [], [], false, none, false⟩, #[some (.ref 1633), none, some (.str (.ofString "Top") 2330), some (.str (.ofString "Top") 2338), some (.builtin "object.__new__"), some (.bool true)]⟩)]
def ob4 (P : Params) : List (Addr × Obj) := [
  (477, ⟨.type "dict", none, .dict #[⟨PyData.keyHash P (.ofString "__module__"), .str (.ofString "__module__") 775, .str (.ofString "headskip.filter_parts") 743⟩,
    ⟨PyData.keyHash P (.ofString "__firstlineno__"), .str (.ofString "__firstlineno__") 779, .int 199 778⟩,
    ⟨PyData.keyHash P (.ofString "__init__"), .str (.ofString "__init__") 789, .ref 468⟩,
    ⟨PyData.keyHash P (.ofString "side"), .str (.ofString "side") 797, .ref 475⟩,
    ⟨PyData.keyHash P (.ofString "__static_attributes__"), .str (.ofString "__static_attributes__") 801, .ref 476⟩,
    ⟨PyData.keyHash P (.ofString "__dict__"), .str (.ofString "__dict__") 803, .ref 479⟩,
    ⟨PyData.keyHash P (.ofString "__weakref__"), .str (.ofString "__weakref__") 805, .ref 480⟩,
    ⟨PyData.keyHash P (.ofString "__doc__"), .str (.ofString "__doc__") 806, .none⟩] 4, #[]⟩),
  (619, ⟨.type "dict", none, .dict #[⟨PyData.keyHash P (.ofString "__module__"), .str (.ofString "__module__") 828, .str (.ofString "headskip.filters") 815⟩,
    ⟨PyData.keyHash P (.ofString "__firstlineno__"), .str (.ofString "__firstlineno__") 832, .int 220 831⟩,
    ⟨PyData.keyHash P (.ofString "__init__"), .str (.ofString "__init__") 838, .ref 499⟩,
    ⟨PyData.keyHash P (.ofString "read"), .str (.ofString "read") 860, .ref 508⟩,
    ⟨PyData.keyHash P (.ofString "columns"), .str (.ofString "columns") 868, .ref 517⟩,
    ⟨PyData.keyHash P (.ofString "constants"), .str (.ofString "constants") 876, .ref 525⟩,
    ⟨PyData.keyHash P (.ofString "links"), .str (.ofString "links") 884, .ref 533⟩,
    ⟨PyData.keyHash P (.ofString "leaves"), .str (.ofString "leaves") 891, .ref 540⟩,
    ⟨PyData.keyHash P (.ofString "judged"), .str (.ofString "judged") 899, .ref 547⟩,
    ⟨PyData.keyHash P (.ofString "truth"), .str (.ofString "truth") 907, .ref 554⟩,
    ⟨PyData.keyHash P (.ofString "__call__"), .str (.ofString "__call__") 915, .ref 561⟩,
    ⟨PyData.keyHash P (.ofString "__len__"), .str (.ofString "__len__") 922, .ref 568⟩,
    ⟨PyData.keyHash P (.ofString "__and__"), .str (.ofString "__and__") 930, .ref 575⟩,
    ⟨PyData.keyHash P (.ofString "__or__"), .str (.ofString "__or__") 938, .ref 582⟩,
    ⟨PyData.keyHash P (.ofString "__invert__"), .str (.ofString "__invert__") 945, .ref 589⟩,
    ⟨PyData.keyHash P (.ofString "renamed"), .str (.ofString "renamed") 953, .ref 596⟩,
    ⟨PyData.keyHash P (.ofString "shifted"), .str (.ofString "shifted") 961, .ref 603⟩,
    ⟨PyData.keyHash P (.ofString "mirrored"), .str (.ofString "mirrored") 968, .ref 610⟩,
    ⟨PyData.keyHash P (.ofString "led"), .str (.ofString "led") 976, .ref 617⟩,
    ⟨PyData.keyHash P (.ofString "__static_attributes__"), .str (.ofString "__static_attributes__") 980, .ref 618⟩,
    ⟨PyData.keyHash P (.ofString "__dict__"), .str (.ofString "__dict__") 982, .ref 621⟩,
    ⟨PyData.keyHash P (.ofString "__weakref__"), .str (.ofString "__weakref__") 984, .ref 622⟩,
    ⟨PyData.keyHash P (.ofString "__doc__"), .str (.ofString "__doc__") 985, .none⟩] 4, #[]⟩),
  (682, ⟨.type "dict", none, .dict #[⟨PyData.keyHash P (.ofString "__module__"), .str (.ofString "__module__") 1002, .str (.ofString "headskip.filters") 815⟩,
    ⟨PyData.keyHash P (.ofString "__firstlineno__"), .str (.ofString "__firstlineno__") 1006, .int 286 1005⟩,
    ⟨PyData.keyHash P (.ofString "WORD"), .str (.ofString "WORD") 1008, .str (.ofString "") 1007⟩,
    ⟨PyData.keyHash P (.ofString "__init__"), .str (.ofString "__init__") 1015, .ref 645⟩,
    ⟨PyData.keyHash P (.ofString "is_so"), .str (.ofString "is_so") 1024, .ref 652⟩,
    ⟨PyData.keyHash P (.ofString "judged"), .str (.ofString "judged") 1034, .ref 659⟩,
    ⟨PyData.keyHash P (.ofString "led"), .str (.ofString "led") 1044, .ref 666⟩,
    ⟨PyData.keyHash P (.ofString "__eq__"), .str (.ofString "__eq__") 1052, .ref 673⟩,
    ⟨PyData.keyHash P (.ofString "__str__"), .str (.ofString "__str__") 1059, .ref 680⟩,
    ⟨PyData.keyHash P (.ofString "__static_attributes__"), .str (.ofString "__static_attributes__") 1062, .ref 681⟩,
    ⟨PyData.keyHash P (.ofString "__doc__"), .str (.ofString "__doc__") 1064, .none⟩,
    ⟨PyData.keyHash P (.ofString "__hash__"), .str (.ofString "__hash__") 1065, .none⟩] 4, #[]⟩),
  (701, ⟨.type "dict", none, .dict #[⟨PyData.keyHash P (.ofString "__module__"), .str (.ofString "__module__") 1075, .str (.ofString "headskip.filters") 815⟩,
    ⟨PyData.keyHash P (.ofString "__firstlineno__"), .str (.ofString "__firstlineno__") 1079, .int 321 1078⟩,
    ⟨PyData.keyHash P (.ofString "WORD"), .str (.ofString "WORD") 1081, .str (.ofString "<") 1080⟩,
    ⟨PyData.keyHash P (.ofString "is_so"), .str (.ofString "is_so") 1090, .ref 699⟩,
    ⟨PyData.keyHash P (.ofString "__static_attributes__"), .str (.ofString "__static_attributes__") 1091, .ref 700⟩,
    ⟨PyData.keyHash P (.ofString "__doc__"), .str (.ofString "__doc__") 1092, .none⟩] 2, #[]⟩),
  (720, ⟨.type "dict", none, .dict #[⟨PyData.keyHash P (.ofString "__module__"), .str (.ofString "__module__") 1102, .str (.ofString "headskip.filters") 815⟩,
    ⟨PyData.keyHash P (.ofString "__firstlineno__"), .str (.ofString "__firstlineno__") 1106, .int 326 1105⟩,
    ⟨PyData.keyHash P (.ofString "WORD"), .str (.ofString "WORD") 1108, .str (.ofString "<=") 1107⟩,
    ⟨PyData.keyHash P (.ofString "is_so"), .str (.ofString "is_so") 1117, .ref 718⟩,
    ⟨PyData.keyHash P (.ofString "__static_attributes__"), .str (.ofString "__static_attributes__") 1118, .ref 719⟩,
    ⟨PyData.keyHash P (.ofString "__doc__"), .str (.ofString "__doc__") 1119, .none⟩] 2, #[]⟩),
  (732, ⟨.type "dict", none, .dict #[⟨PyData.keyHash P (.ofString "__module__"), .str (.ofString "__module__") 1129, .str (.ofString "headskip.filters") 815⟩,
    ⟨PyData.keyHash P (.ofString "__firstlineno__"), .str (.ofString "__firstlineno__") 1133, .int 331 1132⟩,
    ⟨PyData.keyHash P (.ofString "WORD"), .str (.ofString "WORD") 1135, .str (.ofString "=") 1134⟩,
    ⟨PyData.keyHash P (.ofString "__static_attributes__"), .str (.ofString "__static_attributes__") 1136, .ref 731⟩,
    ⟨PyData.keyHash P (.ofString "__doc__"), .str (.ofString "__doc__") 1137, .none⟩] 2, #[]⟩),
  (760, ⟨.type "dict", none, .dict #[⟨PyData.keyHash P (.ofString "__module__"), .str (.ofString "__module__") 1156, .str (.ofString "headskip.filters") 815⟩,
    ⟨PyData.keyHash P (.ofString "__firstlineno__"), .str (.ofString "__firstlineno__") 1160, .int 337 1159⟩,
    ⟨PyData.keyHash P (.ofString "__init__"), .str (.ofString "__init__") 1170, .ref 758⟩,
    ⟨PyData.keyHash P (.ofString "__static_attributes__"), .str (.ofString "__static_attributes__") 1172, .ref 759⟩,
    ⟨PyData.keyHash P (.ofString "__doc__"), .str (.ofString "__doc__") 1174, .none⟩] 3, #[]⟩),
  (803, ⟨.type "dict", none, .dict #[⟨PyData.keyHash P (.ofString "__module__"), .str (.ofString "__module__") 1184, .str (.ofString "headskip.filters") 815⟩,
    ⟨PyData.keyHash P (.ofString "__firstlineno__"), .str (.ofString "__firstlineno__") 1188, .int 344 1187⟩,
    ⟨PyData.keyHash P (.ofString "__init__"), .str (.ofString "__init__") 1195, .ref 777⟩,
    ⟨PyData.keyHash P (.ofString "judged"), .str (.ofString "judged") 1204, .ref 784⟩,
    ⟨PyData.keyHash P (.ofString "led"), .str (.ofString "led") 1210, .ref 789⟩,
    ⟨PyData.keyHash P (.ofString "__eq__"), .str (.ofString "__eq__") 1218, .ref 796⟩,
    ⟨PyData.keyHash P (.ofString "__str__"), .str (.ofString "__str__") 1224, .ref 801⟩,
    ⟨PyData.keyHash P (.ofString "__static_attributes__"), .str (.ofString "__static_attributes__") 1225, .ref 802⟩,
    ⟨PyData.keyHash P (.ofString "__doc__"), .str (.ofString "__doc__") 1227, .none⟩,
    ⟨PyData.keyHash P (.ofString "__hash__"), .str (.ofString "__hash__") 1228, .none⟩] 4, #[]⟩),
  (852, ⟨.type "dict", none, .dict #[⟨PyData.keyHash P (.ofString "__module__"), .str (.ofString "__module__") 1238, .str (.ofString "headskip.filters") 815⟩,
    ⟨PyData.keyHash P (.ofString "__firstlineno__"), .str (.ofString "__firstlineno__") 1242, .int 369 1241⟩,
    ⟨PyData.keyHash P (.ofString "__init__"), .str (.ofString "__init__") 1251, .ref 822⟩,
    ⟨PyData.keyHash P (.ofString "judged"), .str (.ofString "judged") 1259, .ref 829⟩,
    ⟨PyData.keyHash P (.ofString "led"), .str (.ofString "led") 1267, .ref 836⟩,
    ⟨PyData.keyHash P (.ofString "__eq__"), .str (.ofString "__eq__") 1275, .ref 843⟩,
    ⟨PyData.keyHash P (.ofString "__str__"), .str (.ofString "__str__") 1282, .ref 850⟩,
    ⟨PyData.keyHash P (.ofString "__static_attributes__"), .str (.ofString "__static_attributes__") 1283, .ref 851⟩,
    ⟨PyData.keyHash P (.ofString "__doc__"), .str (.ofString "__doc__") 1285, .none⟩,
    ⟨PyData.keyHash P (.ofString "__hash__"), .str (.ofString "__hash__") 1286, .none⟩] 4, #[]⟩),
  (894, ⟨.type "dict", none, .dict #[⟨PyData.keyHash P (.ofString "__module__"), .str (.ofString "__module__") 1296, .str (.ofString "headskip.filters") 815⟩,
    ⟨PyData.keyHash P (.ofString "__firstlineno__"), .str (.ofString "__firstlineno__") 1300, .int 385 1299⟩,
    ⟨PyData.keyHash P (.ofString "IS_TRUE"), .str (.ofString "IS_TRUE") 1301, .bool false⟩,
    ⟨PyData.keyHash P (.ofString "__init__"), .str (.ofString "__init__") 1309, .ref 871⟩,
    ⟨PyData.keyHash P (.ofString "judged"), .str (.ofString "judged") 1317, .ref 878⟩,
    ⟨PyData.keyHash P (.ofString "__eq__"), .str (.ofString "__eq__") 1325, .ref 885⟩,
    ⟨PyData.keyHash P (.ofString "__str__"), .str (.ofString "__str__") 1332, .ref 892⟩,
    ⟨PyData.keyHash P (.ofString "__static_attributes__"), .str (.ofString "__static_attributes__") 1333, .ref 893⟩,
    ⟨PyData.keyHash P (.ofString "__doc__"), .str (.ofString "__doc__") 1335, .none⟩,
    ⟨PyData.keyHash P (.ofString "__hash__"), .str (.ofString "__hash__") 1336, .none⟩] 4, #[]⟩),
  (906, ⟨.type "dict", none, .dict #[⟨PyData.keyHash P (.ofString "__module__"), .str (.ofString "__module__") 1346, .str (.ofString "headskip.filters") 815⟩,
    ⟨PyData.keyHash P (.ofString "__firstlineno__"), .str (.ofString "__firstlineno__") 1350, .int 401 1349⟩,
    ⟨PyData.keyHash P (.ofString "IS_TRUE"), .str (.ofString "IS_TRUE") 1351, .bool true⟩,
    ⟨PyData.keyHash P (.ofString "__static_attributes__"), .str (.ofString "__static_attributes__") 1352, .ref 905⟩,
    ⟨PyData.keyHash P (.ofString "__doc__"), .str (.ofString "__doc__") 1353, .none⟩] 2, #[]⟩),
  (918, ⟨.type "dict", none, .dict #[⟨PyData.keyHash P (.ofString "__module__"), .str (.ofString "__module__") 1363, .str (.ofString "headskip.filters") 815⟩,
    ⟨PyData.keyHash P (.ofString "__firstlineno__"), .str (.ofString "__firstlineno__") 1367, .int 403 1366⟩,
    ⟨PyData.keyHash P (.ofString "__static_attributes__"), .str (.ofString "__static_attributes__") 1368, .ref 917⟩,
    ⟨PyData.keyHash P (.ofString "__doc__"), .str (.ofString "__doc__") 1369, .none⟩] 2, #[]⟩),
  (981, ⟨.type "dict", none, .dict #[⟨PyData.keyHash P (.ofString "__module__"), .str (.ofString "__module__") 1379, .str (.ofString "headskip.filters") 815⟩,
    ⟨PyData.keyHash P (.ofString "__firstlineno__"), .str (.ofString "__firstlineno__") 1383, .int 405 1382⟩,
    ⟨PyData.keyHash P (.ofString "__init__"), .str (.ofString "__init__") 1392, .ref 937⟩,
    ⟨PyData.keyHash P (.ofString "leaves"), .str (.ofString "leaves") 1399, .ref 944⟩,
    ⟨PyData.keyHash P (.ofString "judged"), .str (.ofString "judged") 1407, .ref 951⟩,
    ⟨PyData.keyHash P (.ofString "led"), .str (.ofString "led") 1415, .ref 958⟩,
    ⟨PyData.keyHash P (.ofString "__invert__"), .str (.ofString "__invert__") 1422, .ref 965⟩,
    ⟨PyData.keyHash P (.ofString "__eq__"), .str (.ofString "__eq__") 1430, .ref 972⟩,
    ⟨PyData.keyHash P (.ofString "__str__"), .str (.ofString "__str__") 1437, .ref 979⟩,
    ⟨PyData.keyHash P (.ofString "__static_attributes__"), .str (.ofString "__static_attributes__") 1439, .ref 980⟩,
    ⟨PyData.keyHash P (.ofString "__doc__"), .str (.ofString "__doc__") 1441, .none⟩,
    ⟨PyData.keyHash P (.ofString "__hash__"), .str (.ofString "__hash__") 1442, .none⟩] 4, #[]⟩),
  (1028, ⟨.type "dict", none, .dict #[⟨PyData.keyHash P (.ofString "__module__"), .str (.ofString "__module__") 1452, .str (.ofString "headskip.filters") 815⟩,
    ⟨PyData.keyHash P (.ofString "__firstlineno__"), .str (.ofString "__firstlineno__") 1456, .int 428 1455⟩,
    ⟨PyData.keyHash P (.ofString "WORD"), .str (.ofString "WORD") 1458, .str (.ofString "") 1457⟩,
    ⟨PyData.keyHash P (.ofString "__init__"), .str (.ofString "__init__") 1465, .ref 998⟩,
    ⟨PyData.keyHash P (.ofString "leaves"), .str (.ofString "leaves") 1472, .ref 1005⟩,
    ⟨PyData.keyHash P (.ofString "led"), .str (.ofString "led") 1480, .ref 1012⟩,
    ⟨PyData.keyHash P (.ofString "__eq__"), .str (.ofString "__eq__") 1488, .ref 1019⟩,
    ⟨PyData.keyHash P (.ofString "__str__"), .str (.ofString "__str__") 1495, .ref 1026⟩,
    ⟨PyData.keyHash P (.ofString "__static_attributes__"), .str (.ofString "__static_attributes__") 1498, .ref 1027⟩,
    ⟨PyData.keyHash P (.ofString "__doc__"), .str (.ofString "__doc__") 1500, .none⟩,
    ⟨PyData.keyHash P (.ofString "__hash__"), .str (.ofString "__hash__") 1501, .none⟩] 4, #[]⟩),
  (1047, ⟨.type "dict", none, .dict #[⟨PyData.keyHash P (.ofString "__module__"), .str (.ofString "__module__") 1511, .str (.ofString "headskip.filters") 815⟩,
    ⟨PyData.keyHash P (.ofString "__firstlineno__"), .str (.ofString "__firstlineno__") 1515, .int 454 1514⟩,
    ⟨PyData.keyHash P (.ofString "WORD"), .str (.ofString "WORD") 1517, .str (.ofString "and") 1516⟩,
    ⟨PyData.keyHash P (.ofString "judged"), .str (.ofString "judged") 1527, .ref 1045⟩,
    ⟨PyData.keyHash P (.ofString "__static_attributes__"), .str (.ofString "__static_attributes__") 1528, .ref 1046⟩,
    ⟨PyData.keyHash P (.ofString "__doc__"), .str (.ofString "__doc__") 1529, .none⟩] 2, #[]⟩),
  (1066, ⟨.type "dict", none, .dict #[⟨PyData.keyHash P (.ofString "__module__"), .str (.ofString "__module__") 1539, .str (.ofString "headskip.filters") 815⟩,
    ⟨PyData.keyHash P (.ofString "__firstlineno__"), .str (.ofString "__firstlineno__") 1543, .int 463 1542⟩,
    ⟨PyData.keyHash P (.ofString "WORD"), .str (.ofString "WORD") 1545, .str (.ofString "or") 1544⟩,
    ⟨PyData.keyHash P (.ofString "judged"), .str (.ofString "judged") 1555, .ref 1064⟩,
    ⟨PyData.keyHash P (.ofString "__static_attributes__"), .str (.ofString "__static_attributes__") 1556, .ref 1065⟩,
    ⟨PyData.keyHash P (.ofString "__doc__"), .str (.ofString "__doc__") 1557, .none⟩] 2, #[]⟩),
  (1223, ⟨.type "dict", none, .dict #[⟨PyData.keyHash P (.ofString "__module__"), .str (.ofString "__module__") 1653, .str (.ofString "headskip.lots") 1599⟩,
    ⟨PyData.keyHash P (.ofString "__firstlineno__"), .str (.ofString "__firstlineno__") 1657, .int 524 1656⟩,
    ⟨PyData.keyHash P (.ofString "__init__"), .str (.ofString "__init__") 1663, .ref 1145⟩,
    ⟨PyData.keyHash P (.ofString "of"), .str (.ofString "of") 1681, .ref 1152⟩,
    ⟨PyData.keyHash P (.ofString "read"), .str (.ofString "read") 1703, .ref 1162⟩,
    ⟨PyData.keyHash P (.ofString "__iter__"), .str (.ofString "__iter__") 1710, .ref 1170⟩,
    ⟨PyData.keyHash P (.ofString "__len__"), .str (.ofString "__len__") 1717, .ref 1177⟩,
    ⟨PyData.keyHash P (.ofString "times"), .str (.ofString "times") 1725, .ref 1184⟩,
    ⟨PyData.keyHash P (.ofString "__add__"), .str (.ofString "__add__") 1734, .ref 1191⟩,
    ⟨PyData.keyHash P (.ofString "without"), .str (.ofString "without") 1741, .ref 1197⟩,
    ⟨PyData.keyHash P (.ofString "tally"), .str (.ofString "tally") 1749, .ref 1204⟩,
    ⟨PyData.keyHash P (.ofString "where"), .str (.ofString "where") 1755, .ref 1209⟩,
    ⟨PyData.keyHash P (.ofString "__eq__"), .str (.ofString "__eq__") 1763, .ref 1216⟩,
    ⟨PyData.keyHash P (.ofString "__str__"), .str (.ofString "__str__") 1769, .ref 1221⟩,
    ⟨PyData.keyHash P (.ofString "__static_attributes__"), .str (.ofString "__static_attributes__") 1773, .ref 1222⟩,
    ⟨PyData.keyHash P (.ofString "__dict__"), .str (.ofString "__dict__") 1775, .ref 1225⟩,
    ⟨PyData.keyHash P (.ofString "__weakref__"), .str (.ofString "__weakref__") 1777, .ref 1226⟩,
    ⟨PyData.keyHash P (.ofString "__doc__"), .str (.ofString "__doc__") 1778, .none⟩,
    ⟨PyData.keyHash P (.ofString "__hash__"), .str (.ofString "__hash__") 1779, .none⟩] 5, #[]⟩),
  (1415, ⟨.type "dict", none, .dict #[⟨PyData.keyHash P (.ofString "__module__"), .str (.ofString "__module__") 1937, .str (.ofString "headskip.questions") 1895⟩,
    ⟨PyData.keyHash P (.ofString "__firstlineno__"), .str (.ofString "__firstlineno__") 1941, .int 675 1940⟩,
    ⟨PyData.keyHash P (.ofString "WORD"), .str (.ofString "WORD") 1943, .str (.ofString "question") 1942⟩,
    ⟨PyData.keyHash P (.ofString "__init__"), .str (.ofString "__init__") 1953, .ref 1350⟩,
    ⟨PyData.keyHash P (.ofString "read"), .str (.ofString "read") 1973, .ref 1359⟩,
    ⟨PyData.keyHash P (.ofString "columns"), .str (.ofString "columns") 1981, .ref 1368⟩,
    ⟨PyData.keyHash P (.ofString "told"), .str (.ofString "told") 1987, .ref 1373⟩,
    ⟨PyData.keyHash P (.ofString "joined"), .str (.ofString "joined") 1995, .ref 1380⟩,
    ⟨PyData.keyHash P (.ofString "matches"), .str (.ofString "matches") 2009, .ref 1387⟩,
    ⟨PyData.keyHash P (.ofString "on"), .str (.ofString "on") 2020, .ref 1394⟩,
    ⟨PyData.keyHash P (.ofString "__call__"), .str (.ofString "__call__") 2026, .ref 1399⟩,
    ⟨PyData.keyHash P (.ofString "__eq__"), .str (.ofString "__eq__") 2034, .ref 1406⟩,
    ⟨PyData.keyHash P (.ofString "__str__"), .str (.ofString "__str__") 2041, .ref 1413⟩,
    ⟨PyData.keyHash P (.ofString "__static_attributes__"), .str (.ofString "__static_attributes__") 2045, .ref 1414⟩,
    ⟨PyData.keyHash P (.ofString "__dict__"), .str (.ofString "__dict__") 2047, .ref 1417⟩,
    ⟨PyData.keyHash P (.ofString "__weakref__"), .str (.ofString "__weakref__") 2049, .ref 1418⟩,
    ⟨PyData.keyHash P (.ofString "__doc__"), .str (.ofString "__doc__") 2050, .none⟩,
    ⟨PyData.keyHash P (.ofString "__hash__"), .str (.ofString "__hash__") 2051, .none⟩] 5, #[]⟩),
  (1452, ⟨.type "dict", none, .dict #[⟨PyData.keyHash P (.ofString "__module__"), .str (.ofString "__module__") 2061, .str (.ofString "headskip.questions") 1895⟩,
    ⟨PyData.keyHash P (.ofString "__firstlineno__"), .str (.ofString "__firstlineno__") 2065, .int 733 2064⟩,
    ⟨PyData.keyHash P (.ofString "WORD"), .str (.ofString "WORD") 2067, .str (.ofString "some") 2066⟩,
    ⟨PyData.keyHash P (.ofString "__init__"), .str (.ofString "__init__") 2076, .ref 1436⟩,
    ⟨PyData.keyHash P (.ofString "told"), .str (.ofString "told") 2084, .ref 1443⟩,
    ⟨PyData.keyHash P (.ofString "joined"), .str (.ofString "joined") 2092, .ref 1450⟩,
    ⟨PyData.keyHash P (.ofString "__static_attributes__"), .str (.ofString "__static_attributes__") 2093, .ref 1451⟩,
    ⟨PyData.keyHash P (.ofString "__doc__"), .str (.ofString "__doc__") 2095, .none⟩] 3, #[]⟩),
  (1473, ⟨.type "dict", none, .dict #[⟨PyData.keyHash P (.ofString "__module__"), .str (.ofString "__module__") 2105, .str (.ofString "headskip.questions") 1895⟩,
    ⟨PyData.keyHash P (.ofString "__firstlineno__"), .str (.ofString "__firstlineno__") 2109, .int 744 2108⟩,
    ⟨PyData.keyHash P (.ofString "WORD"), .str (.ofString "WORD") 2111, .str (.ofString "many") 2110⟩,
    ⟨PyData.keyHash P (.ofString "__init__"), .str (.ofString "__init__") 2120, .ref 1471⟩,
    ⟨PyData.keyHash P (.ofString "__static_attributes__"), .str (.ofString "__static_attributes__") 2121, .ref 1472⟩,
    ⟨PyData.keyHash P (.ofString "__doc__"), .str (.ofString "__doc__") 2123, .none⟩] 3, #[]⟩)]
def ob5 (P : Params) : List (Addr × Obj) := [
  (1513, ⟨.type "dict", none, .dict #[⟨PyData.keyHash P (.ofString "__module__"), .str (.ofString "__module__") 2133, .str (.ofString "headskip.questions") 1895⟩,
    ⟨PyData.keyHash P (.ofString "__firstlineno__"), .str (.ofString "__firstlineno__") 2137, .int 749 2136⟩,
    ⟨PyData.keyHash P (.ofString "WORD"), .str (.ofString "WORD") 2139, .str (.ofString "at least") 2138⟩,
    ⟨PyData.keyHash P (.ofString "__init__"), .str (.ofString "__init__") 2149, .ref 1492⟩,
    ⟨PyData.keyHash P (.ofString "told"), .str (.ofString "told") 2155, .ref 1497⟩,
    ⟨PyData.keyHash P (.ofString "joined"), .str (.ofString "joined") 2163, .ref 1504⟩,
    ⟨PyData.keyHash P (.ofString "__str__"), .str (.ofString "__str__") 2170, .ref 1511⟩,
    ⟨PyData.keyHash P (.ofString "__static_attributes__"), .str (.ofString "__static_attributes__") 2171, .ref 1512⟩,
    ⟨PyData.keyHash P (.ofString "__doc__"), .str (.ofString "__doc__") 2173, .none⟩] 3, #[]⟩),
  (1541, ⟨.type "dict", none, .dict #[⟨PyData.keyHash P (.ofString "__module__"), .str (.ofString "__module__") 2183, .str (.ofString "headskip.questions") 1895⟩,
    ⟨PyData.keyHash P (.ofString "__firstlineno__"), .str (.ofString "__firstlineno__") 2187, .int 766 2186⟩,
    ⟨PyData.keyHash P (.ofString "WORD"), .str (.ofString "WORD") 2189, .str (.ofString "column") 2188⟩,
    ⟨PyData.keyHash P (.ofString "__init__"), .str (.ofString "__init__") 2200, .ref 1532⟩,
    ⟨PyData.keyHash P (.ofString "__str__"), .str (.ofString "__str__") 2207, .ref 1539⟩,
    ⟨PyData.keyHash P (.ofString "__static_attributes__"), .str (.ofString "__static_attributes__") 2208, .ref 1540⟩,
    ⟨PyData.keyHash P (.ofString "__doc__"), .str (.ofString "__doc__") 2210, .none⟩] 3, #[]⟩),
  (1572, ⟨.type "dict", none, .dict #[⟨PyData.keyHash P (.ofString "__module__"), .str (.ofString "__module__") 2220, .str (.ofString "headskip.questions") 1895⟩,
    ⟨PyData.keyHash P (.ofString "__firstlineno__"), .str (.ofString "__firstlineno__") 2224, .int 776 2223⟩,
    ⟨PyData.keyHash P (.ofString "WORD"), .str (.ofString "WORD") 2226, .str (.ofString "greatest") 2225⟩,
    ⟨PyData.keyHash P (.ofString "__init__"), .str (.ofString "__init__") 2236, .ref 1560⟩,
    ⟨PyData.keyHash P (.ofString "told"), .str (.ofString "told") 2242, .ref 1565⟩,
    ⟨PyData.keyHash P (.ofString "joined"), .str (.ofString "joined") 2248, .ref 1570⟩,
    ⟨PyData.keyHash P (.ofString "__static_attributes__"), .str (.ofString "__static_attributes__") 2249, .ref 1571⟩,
    ⟨PyData.keyHash P (.ofString "__doc__"), .str (.ofString "__doc__") 2251, .none⟩] 3, #[]⟩),
  (1603, ⟨.type "dict", none, .dict #[⟨PyData.keyHash P (.ofString "__module__"), .str (.ofString "__module__") 2261, .str (.ofString "headskip.questions") 1895⟩,
    ⟨PyData.keyHash P (.ofString "__firstlineno__"), .str (.ofString "__firstlineno__") 2265, .int 788 2264⟩,
    ⟨PyData.keyHash P (.ofString "WORD"), .str (.ofString "WORD") 2267, .str (.ofString "least") 2266⟩,
    ⟨PyData.keyHash P (.ofString "__init__"), .str (.ofString "__init__") 2277, .ref 1591⟩,
    ⟨PyData.keyHash P (.ofString "told"), .str (.ofString "told") 2283, .ref 1596⟩,
    ⟨PyData.keyHash P (.ofString "joined"), .str (.ofString "joined") 2289, .ref 1601⟩,
    ⟨PyData.keyHash P (.ofString "__static_attributes__"), .str (.ofString "__static_attributes__") 2290, .ref 1602⟩,
    ⟨PyData.keyHash P (.ofString "__doc__"), .str (.ofString "__doc__") 2292, .none⟩] 3, #[]⟩),
  (1629, ⟨.type "dict", none, .dict #[⟨PyData.keyHash P (.ofString "__module__"), .str (.ofString "__module__") 2302, .str (.ofString "headskip.questions") 1895⟩,
    ⟨PyData.keyHash P (.ofString "__firstlineno__"), .str (.ofString "__firstlineno__") 2306, .int 800 2305⟩,
    ⟨PyData.keyHash P (.ofString "WORD"), .str (.ofString "WORD") 2308, .str (.ofString "total") 2307⟩,
    ⟨PyData.keyHash P (.ofString "__init__"), .str (.ofString "__init__") 2318, .ref 1622⟩,
    ⟨PyData.keyHash P (.ofString "told"), .str (.ofString "told") 2324, .ref 1627⟩,
    ⟨PyData.keyHash P (.ofString "__static_attributes__"), .str (.ofString "__static_attributes__") 2325, .ref 1628⟩,
    ⟨PyData.keyHash P (.ofString "__doc__"), .str (.ofString "__doc__") 2327, .none⟩] 3, #[]⟩),
  (1667, ⟨.type "dict", none, .dict #[⟨PyData.keyHash P (.ofString "__module__"), .str (.ofString "__module__") 2337, .str (.ofString "headskip.questions") 1895⟩,
    ⟨PyData.keyHash P (.ofString "__firstlineno__"), .str (.ofString "__firstlineno__") 2341, .int 808 2340⟩,
    ⟨PyData.keyHash P (.ofString "WORD"), .str (.ofString "WORD") 2343, .str (.ofString "top") 2342⟩,
    ⟨PyData.keyHash P (.ofString "__init__"), .str (.ofString "__init__") 2354, .ref 1648⟩,
    ⟨PyData.keyHash P (.ofString "told"), .str (.ofString "told") 2360, .ref 1653⟩,
    ⟨PyData.keyHash P (.ofString "joined"), .str (.ofString "joined") 2366, .ref 1658⟩,
    ⟨PyData.keyHash P (.ofString "__str__"), .str (.ofString "__str__") 2373, .ref 1665⟩,
    ⟨PyData.keyHash P (.ofString "__static_attributes__"), .str (.ofString "__static_attributes__") 2374, .ref 1666⟩,
    ⟨PyData.keyHash P (.ofString "__doc__"), .str (.ofString "__doc__") 2376, .none⟩] 3, #[]⟩)]
def ob6 (P : Params) : List (Addr × Obj) := [
  (517, ⟨.type "property", none, .fields #[.ref 516, .none, .none, .none, .str (.ofString "columns") 868, .bool false], #[]⟩),
  (525, ⟨.type "property", none, .fields #[.ref 524, .none, .none, .none, .str (.ofString "constants") 876, .bool false], #[]⟩),
  (533, ⟨.type "property", none, .fields #[.ref 532, .none, .none, .none, .str (.ofString "links") 884, .bool false], #[]⟩),
  (1368, ⟨.type "property", none, .fields #[.ref 1367, .none, .none, .none, .str (.ofString "columns") 1981, .bool false], #[]⟩),
  (635, ⟨.type "cell", none, .cell (some (.ref 683)), #[]⟩),
  (746, ⟨.type "cell", none, .cell (some (.ref 761)), #[]⟩),
  (767, ⟨.type "cell", none, .cell (some (.ref 804)), #[]⟩),
  (810, ⟨.type "cell", none, .cell (some (.ref 853)), #[]⟩),
  (859, ⟨.type "cell", none, .cell (some (.ref 895)), #[]⟩),
  (925, ⟨.type "cell", none, .cell (some (.ref 982)), #[]⟩),
  (988, ⟨.type "cell", none, .cell (some (.ref 1029)), #[]⟩),
  (1424, ⟨.type "cell", none, .cell (some (.ref 1453)), #[]⟩),
  (1459, ⟨.type "cell", none, .cell (some (.ref 1474)), #[]⟩),
  (1480, ⟨.type "cell", none, .cell (some (.ref 1514)), #[]⟩),
  (1520, ⟨.type "cell", none, .cell (some (.ref 1542)), #[]⟩),
  (1548, ⟨.type "cell", none, .cell (some (.ref 1573)), #[]⟩),
  (1579, ⟨.type "cell", none, .cell (some (.ref 1604)), #[]⟩),
  (1610, ⟨.type "cell", none, .cell (some (.ref 1630)), #[]⟩),
  (1636, ⟨.type "cell", none, .cell (some (.ref 1668)), #[]⟩)]
def ob7 (P : Params) : List (Addr × Obj) := [
  (270, ⟨.type "code", none, .fields #[.str (.ofString "is_name") 531, .str (.ofString "is_name") 532, .str (.ofString "/claim/cut.py") 533, .int 68 0, .int 1 0, .int 0 0, .int 0 0, .int 3 0, .ref 267, .bool true, .int 181 0, .ref 268, .none, .none, .none, .ref 269, .int 534 0, .int 68 0, .str (.ofString "/claim/cut.py") 535], #[]⟩),
  (277, ⟨.type "code", none, .fields #[.str (.ofString "is_integer") 537, .str (.ofString "is_integer") 538, .str (.ofString "/claim/cut.py") 539, .int 72 0, .int 1 0, .int 0 0, .int 0 0, .int 3 0, .ref 272, .bool true, .int 181 0, .ref 273, .none, .ref 274, .ref 275, .ref 276, .int 541 0, .int 72 0, .str (.ofString "/claim/cut.py") 542], #[]⟩),
  (284, ⟨.type "code", none, .fields #[.str (.ofString "is_value") 544, .str (.ofString "is_value") 545, .str (.ofString "/claim/cut.py") 546, .int 74 0, .int 1 0, .int 0 0, .int 0 0, .int 3 0, .ref 279, .bool true, .int 181 0, .ref 280, .none, .ref 281, .ref 282, .ref 283, .int 548 0, .int 74 0, .str (.ofString "/claim/cut.py") 549], #[]⟩),
  (298, ⟨.type "code", none, .fields #[.str (.ofString "is_below") 559, .str (.ofString "is_below") 560, .str (.ofString "/claim/cut.py") 561, .int 78 0, .int 2 0, .int 0 0, .int 0 0, .int 3 0, .ref 293, .bool true, .int 181 0, .ref 294, .none, .ref 295, .ref 296, .ref 297, .int 564 0, .int 78 0, .str (.ofString "/claim/cut.py") 565], #[]⟩),
  (305, ⟨.type "code", none, .fields #[.str (.ofString "is_ahead") 567, .str (.ofString "is_ahead") 568, .str (.ofString "/claim/cut.py") 569, .int 82 0, .int 2 0, .int 0 0, .int 0 0, .int 3 0, .ref 300, .bool true, .int 181 0, .ref 301, .none, .ref 302, .ref 303, .ref 304, .int 574 0, .int 82 0, .str (.ofString "/claim/cut.py") 575], #[]⟩),
  (310, ⟨.type "code", none, .fields #[.str (.ofString "ascending_rows") 577, .str (.ofString "ascending_rows") 578, .str (.ofString "/claim/cut.py") 579, .int 87 0, .int 1 0, .int 0 0, .int 0 0, .int 3 0, .ref 307, .bool true, .int 181 0, .ref 308, .none, .none, .none, .ref 309, .int 580 0, .int 87 0, .str (.ofString "/claim/cut.py") 581], #[]⟩),
  (315, ⟨.type "code", none, .fields #[.str (.ofString "ascending_names") 583, .str (.ofString "ascending_names") 584, .str (.ofString "/claim/cut.py") 585, .int 93 0, .int 1 0, .int 0 0, .int 0 0, .int 3 0, .ref 312, .bool true, .int 181 0, .ref 313, .none, .none, .none, .ref 314, .int 586 0, .int 93 0, .str (.ofString "/claim/cut.py") 587], #[]⟩),
  (446, ⟨.type "code", none, .fields #[.str (.ofString "not_of") 753, .str (.ofString "not_of") 754, .str (.ofString "/claim/cut.py") 755, .int 195 0, .int 1 0, .int 0 0, .int 0 0, .int 3 0, .ref 441, .bool true, .int 181 0, .ref 442, .none, .ref 443, .ref 444, .ref 445, .int 757 0, .int 195 0, .str (.ofString "/claim/cut.py") 758], #[]⟩),
  (453, ⟨.type "code", none, .fields #[.str (.ofString "side_at") 760, .str (.ofString "side_at") 761, .str (.ofString "/claim/cut.py") 762, .int 197 0, .int 2 0, .int 0 0, .int 0 0, .int 3 0, .ref 448, .bool true, .int 181 0, .ref 449, .none, .ref 450, .ref 451, .ref 452, .int 765 0, .int 197 0, .str (.ofString "/claim/cut.py") 766], #[]⟩),
  (467, ⟨.type "code", none, .fields #[.str (.ofString "__init__") 780, .str (.ofString "Change.__init__") 781, .str (.ofString "/claim/cut.py") 782, .int 201 0, .int 4 0, .int 0 0, .int 0 0, .int 3 0, .ref 462, .bool true, .int 181 0, .ref 463, .none, .ref 464, .ref 465, .ref 466, .int 787 0, .int 201 0, .str (.ofString "/claim/cut.py") 788], #[]⟩),
  (474, ⟨.type "code", none, .fields #[.str (.ofString "side") 790, .str (.ofString "Change.side") 791, .str (.ofString "/claim/cut.py") 792, .int 206 0, .int 2 0, .int 0 0, .int 0 0, .int 3 0, .ref 469, .bool true, .int 181 0, .ref 470, .none, .ref 471, .ref 472, .ref 473, .int 795 0, .int 206 0, .str (.ofString "/claim/cut.py") 796], #[]⟩),
  (486, ⟨.type "code", none, .fields #[.str (.ofString "joined_links") 809, .str (.ofString "joined_links") 810, .str (.ofString "/claim/cut.py") 811, .int 210 0, .int 2 0, .int 0 0, .int 0 0, .int 3 0, .ref 483, .bool true, .int 181 0, .ref 484, .none, .none, .none, .ref 485, .int 812 0, .int 210 0, .str (.ofString "/claim/cut.py") 813], #[]⟩),
  (498, ⟨.type "code", none, .fields #[.str (.ofString "__init__") 833, .str (.ofString "Filter.__init__") 834, .str (.ofString "/claim/cut.py") 835, .int 222 0, .int 4 0, .int 0 0, .int 0 0, .int 3 0, .ref 495, .bool true, .int 181 0, .ref 496, .none, .none, .none, .ref 497, .int 836 0, .int 222 0, .str (.ofString "/claim/cut.py") 837], #[]⟩),
  (515, ⟨.type "code", none, .fields #[.str (.ofString "columns") 861, .str (.ofString "Filter.columns") 862, .str (.ofString "/claim/cut.py") 863, .int 234 0, .int 1 0, .int 0 0, .int 0 0, .int 3 0, .ref 510, .bool true, .int 181 0, .ref 511, .none, .ref 512, .ref 513, .ref 514, .int 865 0, .int 234 0, .str (.ofString "/claim/cut.py") 866], #[]⟩),
  (523, ⟨.type "code", none, .fields #[.str (.ofString "constants") 869, .str (.ofString "Filter.constants") 870, .str (.ofString "/claim/cut.py") 871, .int 238 0, .int 1 0, .int 0 0, .int 0 0, .int 3 0, .ref 518, .bool true, .int 181 0, .ref 519, .none, .ref 520, .ref 521, .ref 522, .int 873 0, .int 238 0, .str (.ofString "/claim/cut.py") 874], #[]⟩),
  (531, ⟨.type "code", none, .fields #[.str (.ofString "links") 877, .str (.ofString "Filter.links") 878, .str (.ofString "/claim/cut.py") 879, .int 242 0, .int 1 0, .int 0 0, .int 0 0, .int 3 0, .ref 526, .bool true, .int 181 0, .ref 527, .none, .ref 528, .ref 529, .ref 530, .int 881 0, .int 242 0, .str (.ofString "/claim/cut.py") 882], #[]⟩),
  (539, ⟨.type "code", none, .fields #[.str (.ofString "leaves") 885, .str (.ofString "Filter.leaves") 886, .str (.ofString "/claim/cut.py") 887, .int 246 0, .int 1 0, .int 0 0, .int 0 0, .int 3 0, .ref 534, .bool true, .int 181 0, .ref 535, .none, .ref 536, .ref 537, .ref 538, .int 889 0, .int 246 0, .str (.ofString "/claim/cut.py") 890], #[]⟩),
  (546, ⟨.type "code", none, .fields #[.str (.ofString "judged") 892, .str (.ofString "Filter.judged") 893, .str (.ofString "/claim/cut.py") 894, .int 249 0, .int 2 0, .int 0 0, .int 0 0, .int 3 0, .ref 541, .bool true, .int 181 0, .ref 542, .none, .ref 543, .ref 544, .ref 545, .int 897 0, .int 249 0, .str (.ofString "/claim/cut.py") 898], #[]⟩),
  (567, ⟨.type "code", none, .fields #[.str (.ofString "__len__") 916, .str (.ofString "Filter.__len__") 917, .str (.ofString "/claim/cut.py") 918, .int 259 0, .int 1 0, .int 0 0, .int 0 0, .int 3 0, .ref 562, .bool true, .int 181 0, .ref 563, .none, .ref 564, .ref 565, .ref 566, .int 920 0, .int 259 0, .str (.ofString "/claim/cut.py") 921], #[]⟩),
  (574, ⟨.type "code", none, .fields #[.str (.ofString "__and__") 923, .str (.ofString "Filter.__and__") 924, .str (.ofString "/claim/cut.py") 925, .int 262 0, .int 2 0, .int 0 0, .int 0 0, .int 3 0, .ref 569, .bool true, .int 181 0, .ref 570, .none, .ref 571, .ref 572, .ref 573, .int 928 0, .int 262 0, .str (.ofString "/claim/cut.py") 929], #[]⟩)]
def ob8 (P : Params) : List (Addr × Obj) := [
  (581, ⟨.type "code", none, .fields #[.str (.ofString "__or__") 931, .str (.ofString "Filter.__or__") 932, .str (.ofString "/claim/cut.py") 933, .int 265 0, .int 2 0, .int 0 0, .int 0 0, .int 3 0, .ref 576, .bool true, .int 181 0, .ref 577, .none, .ref 578, .ref 579, .ref 580, .int 936 0, .int 265 0, .str (.ofString "/claim/cut.py") 937], #[]⟩),
  (588, ⟨.type "code", none, .fields #[.str (.ofString "__invert__") 939, .str (.ofString "Filter.__invert__") 940, .str (.ofString "/claim/cut.py") 941, .int 268 0, .int 1 0, .int 0 0, .int 0 0, .int 3 0, .ref 583, .bool true, .int 181 0, .ref 584, .none, .ref 585, .ref 586, .ref 587, .int 943 0, .int 268 0, .str (.ofString "/claim/cut.py") 944], #[]⟩),
  (609, ⟨.type "code", none, .fields #[.str (.ofString "mirrored") 962, .str (.ofString "Filter.mirrored") 963, .str (.ofString "/claim/cut.py") 964, .int 277 0, .int 1 0, .int 0 0, .int 0 0, .int 3 0, .ref 604, .bool true, .int 181 0, .ref 605, .none, .ref 606, .ref 607, .ref 608, .int 966 0, .int 277 0, .str (.ofString "/claim/cut.py") 967], #[]⟩),
  (616, ⟨.type "code", none, .fields #[.str (.ofString "led") 969, .str (.ofString "Filter.led") 970, .str (.ofString "/claim/cut.py") 971, .int 280 0, .int 2 0, .int 0 0, .int 0 0, .int 3 0, .ref 611, .bool true, .int 181 0, .ref 612, .none, .ref 613, .ref 614, .ref 615, .int 974 0, .int 280 0, .str (.ofString "/claim/cut.py") 975], #[]⟩),
  (630, ⟨.type "code", none, .fields #[.str (.ofString "needed") 988, .str (.ofString "needed") 989, .str (.ofString "/claim/cut.py") 990, .int 282 0, .int 1 0, .int 0 0, .int 0 0, .int 3 0, .ref 625, .bool true, .int 181 0, .ref 626, .none, .ref 627, .ref 628, .ref 629, .int 992 0, .int 282 0, .str (.ofString "/claim/cut.py") 993], #[]⟩),
  (644, ⟨.type "code", none, .fields #[.str (.ofString "__init__") 1009, .str (.ofString "Compared.__init__") 1010, .str (.ofString "/claim/cut.py") 1011, .int 289 0, .int 3 0, .int 0 0, .int 0 0, .int 3 0, .ref 641, .bool true, .int 181 0, .ref 642, .none, .none, .none, .ref 643, .int 1013 0, .int 289 0, .str (.ofString "/claim/cut.py") 1014], #[]⟩),
  (651, ⟨.type "code", none, .fields #[.str (.ofString "is_so") 1016, .str (.ofString "Compared.is_so") 1017, .str (.ofString "/claim/cut.py") 1018, .int 303 0, .int 3 0, .int 0 0, .int 0 0, .int 3 0, .ref 646, .bool true, .int 181 0, .ref 647, .none, .ref 648, .ref 649, .ref 650, .int 1022 0, .int 303 0, .str (.ofString "/claim/cut.py") 1023], #[]⟩),
  (658, ⟨.type "code", none, .fields #[.str (.ofString "judged") 1025, .str (.ofString "Compared.judged") 1026, .str (.ofString "/claim/cut.py") 1027, .int 306 0, .int 2 0, .int 0 0, .int 0 0, .int 3 0, .ref 653, .bool true, .int 181 0, .ref 654, .none, .ref 655, .ref 656, .ref 657, .int 1032 0, .int 306 0, .str (.ofString "/claim/cut.py") 1033], #[]⟩),
  (665, ⟨.type "code", none, .fields #[.str (.ofString "led") 1035, .str (.ofString "Compared.led") 1036, .str (.ofString "/claim/cut.py") 1037, .int 310 0, .int 2 0, .int 0 0, .int 0 0, .int 3 0, .ref 660, .bool true, .int 181 0, .ref 661, .none, .ref 662, .ref 663, .ref 664, .int 1042 0, .int 310 0, .str (.ofString "/claim/cut.py") 1043], #[]⟩),
  (698, ⟨.type "code", none, .fields #[.str (.ofString "is_so") 1082, .str (.ofString "Less.is_so") 1083, .str (.ofString "/claim/cut.py") 1084, .int 324 0, .int 3 0, .int 0 0, .int 0 0, .int 3 0, .ref 693, .bool true, .int 181 0, .ref 694, .none, .ref 695, .ref 696, .ref 697, .int 1088 0, .int 324 0, .str (.ofString "/claim/cut.py") 1089], #[]⟩),
  (717, ⟨.type "code", none, .fields #[.str (.ofString "is_so") 1109, .str (.ofString "AtMost.is_so") 1110, .str (.ofString "/claim/cut.py") 1111, .int 329 0, .int 3 0, .int 0 0, .int 0 0, .int 3 0, .ref 712, .bool true, .int 181 0, .ref 713, .none, .ref 714, .ref 715, .ref 716, .int 1115 0, .int 329 0, .str (.ofString "/claim/cut.py") 1116], #[]⟩),
  (741, ⟨.type "code", none, .fields #[.str (.ofString "compared") 1140, .str (.ofString "compared") 1141, .str (.ofString "/claim/cut.py") 1142, .int 333 0, .int 3 0, .int 0 0, .int 0 0, .int 3 0, .ref 736, .bool true, .int 181 0, .ref 737, .none, .ref 738, .ref 739, .ref 740, .int 1146 0, .int 333 0, .str (.ofString "/claim/cut.py") 1147], #[]⟩),
  (757, ⟨.type "code", none, .fields #[.str (.ofString "__init__") 1161, .str (.ofString "Picked.__init__") 1162, .str (.ofString "/claim/cut.py") 1163, .int 339 0, .int 3 0, .int 0 0, .int 0 0, .int 3 0, .ref 752, .bool true, .int 181 0, .ref 753, .none, .ref 754, .ref 755, .ref 756, .int 1168 0, .int 339 0, .str (.ofString "/claim/cut.py") 1169], #[]⟩),
  (776, ⟨.type "code", none, .fields #[.str (.ofString "__init__") 1189, .str (.ofString "Among.__init__") 1190, .str (.ofString "/claim/cut.py") 1191, .int 346 0, .int 2 0, .int 0 0, .int 0 0, .int 7 0, .ref 773, .bool true, .int 181 0, .ref 774, .none, .none, .none, .ref 775, .int 1193 0, .int 346 0, .str (.ofString "/claim/cut.py") 1194], #[]⟩),
  (783, ⟨.type "code", none, .fields #[.str (.ofString "judged") 1196, .str (.ofString "Among.judged") 1197, .str (.ofString "/claim/cut.py") 1198, .int 356 0, .int 2 0, .int 0 0, .int 0 0, .int 3 0, .ref 778, .bool true, .int 181 0, .ref 779, .none, .ref 780, .ref 781, .ref 782, .int 1202 0, .int 356 0, .str (.ofString "/claim/cut.py") 1203], #[]⟩),
  (788, ⟨.type "code", none, .fields #[.str (.ofString "led") 1205, .str (.ofString "Among.led") 1206, .str (.ofString "/claim/cut.py") 1207, .int 360 0, .int 2 0, .int 0 0, .int 0 0, .int 3 0, .ref 785, .bool true, .int 181 0, .ref 786, .none, .none, .none, .ref 787, .int 1208 0, .int 360 0, .str (.ofString "/claim/cut.py") 1209], #[]⟩),
  (821, ⟨.type "code", none, .fields #[.str (.ofString "__init__") 1243, .str (.ofString "Missing.__init__") 1244, .str (.ofString "/claim/cut.py") 1245, .int 371 0, .int 2 0, .int 0 0, .int 0 0, .int 3 0, .ref 816, .bool true, .int 181 0, .ref 817, .none, .ref 818, .ref 819, .ref 820, .int 1249 0, .int 371 0, .str (.ofString "/claim/cut.py") 1250], #[]⟩),
  (828, ⟨.type "code", none, .fields #[.str (.ofString "judged") 1252, .str (.ofString "Missing.judged") 1253, .str (.ofString "/claim/cut.py") 1254, .int 374 0, .int 2 0, .int 0 0, .int 0 0, .int 3 0, .ref 823, .bool true, .int 181 0, .ref 824, .none, .ref 825, .ref 826, .ref 827, .int 1257 0, .int 374 0, .str (.ofString "/claim/cut.py") 1258], #[]⟩),
  (835, ⟨.type "code", none, .fields #[.str (.ofString "led") 1260, .str (.ofString "Missing.led") 1261, .str (.ofString "/claim/cut.py") 1262, .int 377 0, .int 2 0, .int 0 0, .int 0 0, .int 3 0, .ref 830, .bool true, .int 181 0, .ref 831, .none, .ref 832, .ref 833, .ref 834, .int 1265 0, .int 377 0, .str (.ofString "/claim/cut.py") 1266], #[]⟩),
  (870, ⟨.type "code", none, .fields #[.str (.ofString "__init__") 1302, .str (.ofString "Fixed.__init__") 1303, .str (.ofString "/claim/cut.py") 1304, .int 388 0, .int 1 0, .int 0 0, .int 0 0, .int 3 0, .ref 865, .bool true, .int 181 0, .ref 866, .none, .ref 867, .ref 868, .ref 869, .int 1307 0, .int 388 0, .str (.ofString "/claim/cut.py") 1308], #[]⟩)]
def ob9 (P : Params) : List (Addr × Obj) := [
  (877, ⟨.type "code", none, .fields #[.str (.ofString "judged") 1310, .str (.ofString "Fixed.judged") 1311, .str (.ofString "/claim/cut.py") 1312, .int 391 0, .int 2 0, .int 0 0, .int 0 0, .int 3 0, .ref 872, .bool true, .int 181 0, .ref 873, .none, .ref 874, .ref 875, .ref 876, .int 1315 0, .int 391 0, .str (.ofString "/claim/cut.py") 1316], #[]⟩),
  (936, ⟨.type "code", none, .fields #[.str (.ofString "__init__") 1384, .str (.ofString "Turned.__init__") 1385, .str (.ofString "/claim/cut.py") 1386, .int 407 0, .int 2 0, .int 0 0, .int 0 0, .int 3 0, .ref 931, .bool true, .int 181 0, .ref 932, .none, .ref 933, .ref 934, .ref 935, .int 1390 0, .int 407 0, .str (.ofString "/claim/cut.py") 1391], #[]⟩),
  (943, ⟨.type "code", none, .fields #[.str (.ofString "leaves") 1393, .str (.ofString "Turned.leaves") 1394, .str (.ofString "/claim/cut.py") 1395, .int 411 0, .int 1 0, .int 0 0, .int 0 0, .int 3 0, .ref 938, .bool true, .int 181 0, .ref 939, .none, .ref 940, .ref 941, .ref 942, .int 1397 0, .int 411 0, .str (.ofString "/claim/cut.py") 1398], #[]⟩),
  (950, ⟨.type "code", none, .fields #[.str (.ofString "judged") 1400, .str (.ofString "Turned.judged") 1401, .str (.ofString "/claim/cut.py") 1402, .int 414 0, .int 2 0, .int 0 0, .int 0 0, .int 3 0, .ref 945, .bool true, .int 181 0, .ref 946, .none, .ref 947, .ref 948, .ref 949, .int 1405 0, .int 414 0, .str (.ofString "/claim/cut.py") 1406], #[]⟩),
  (957, ⟨.type "code", none, .fields #[.str (.ofString "led") 1408, .str (.ofString "Turned.led") 1409, .str (.ofString "/claim/cut.py") 1410, .int 417 0, .int 2 0, .int 0 0, .int 0 0, .int 3 0, .ref 952, .bool true, .int 181 0, .ref 953, .none, .ref 954, .ref 955, .ref 956, .int 1413 0, .int 417 0, .str (.ofString "/claim/cut.py") 1414], #[]⟩),
  (964, ⟨.type "code", none, .fields #[.str (.ofString "__invert__") 1416, .str (.ofString "Turned.__invert__") 1417, .str (.ofString "/claim/cut.py") 1418, .int 420 0, .int 1 0, .int 0 0, .int 0 0, .int 3 0, .ref 959, .bool true, .int 181 0, .ref 960, .none, .ref 961, .ref 962, .ref 963, .int 1420 0, .int 420 0, .str (.ofString "/claim/cut.py") 1421], #[]⟩),
  (997, ⟨.type "code", none, .fields #[.str (.ofString "__init__") 1459, .str (.ofString "Joined.__init__") 1460, .str (.ofString "/claim/cut.py") 1461, .int 431 0, .int 3 0, .int 0 0, .int 0 0, .int 3 0, .ref 994, .bool true, .int 181 0, .ref 995, .none, .none, .none, .ref 996, .int 1463 0, .int 431 0, .str (.ofString "/claim/cut.py") 1464], #[]⟩),
  (1004, ⟨.type "code", none, .fields #[.str (.ofString "leaves") 1466, .str (.ofString "Joined.leaves") 1467, .str (.ofString "/claim/cut.py") 1468, .int 441 0, .int 1 0, .int 0 0, .int 0 0, .int 3 0, .ref 999, .bool true, .int 181 0, .ref 1000, .none, .ref 1001, .ref 1002, .ref 1003, .int 1470 0, .int 441 0, .str (.ofString "/claim/cut.py") 1471], #[]⟩),
  (1011, ⟨.type "code", none, .fields #[.str (.ofString "led") 1473, .str (.ofString "Joined.led") 1474, .str (.ofString "/claim/cut.py") 1475, .int 444 0, .int 2 0, .int 0 0, .int 0 0, .int 3 0, .ref 1006, .bool true, .int 181 0, .ref 1007, .none, .ref 1008, .ref 1009, .ref 1010, .int 1478 0, .int 444 0, .str (.ofString "/claim/cut.py") 1479], #[]⟩),
  (1044, ⟨.type "code", none, .fields #[.str (.ofString "judged") 1518, .str (.ofString "Both.judged") 1519, .str (.ofString "/claim/cut.py") 1520, .int 457 0, .int 2 0, .int 0 0, .int 0 0, .int 3 0, .ref 1039, .bool true, .int 181 0, .ref 1040, .none, .ref 1041, .ref 1042, .ref 1043, .int 1525 0, .int 457 0, .str (.ofString "/claim/cut.py") 1526], #[]⟩),
  (1063, ⟨.type "code", none, .fields #[.str (.ofString "judged") 1546, .str (.ofString "Either.judged") 1547, .str (.ofString "/claim/cut.py") 1548, .int 466 0, .int 2 0, .int 0 0, .int 0 0, .int 3 0, .ref 1058, .bool true, .int 181 0, .ref 1059, .none, .ref 1060, .ref 1061, .ref 1062, .int 1553 0, .int 466 0, .str (.ofString "/claim/cut.py") 1554], #[]⟩),
  (1075, ⟨.type "code", none, .fields #[.str (.ofString "joined") 1560, .str (.ofString "joined") 1561, .str (.ofString "/claim/cut.py") 1562, .int 472 0, .int 3 0, .int 0 0, .int 0 0, .int 3 0, .ref 1070, .bool true, .int 181 0, .ref 1071, .none, .ref 1072, .ref 1073, .ref 1074, .int 1566 0, .int 472 0, .str (.ofString "/claim/cut.py") 1567], #[]⟩),
  (1101, ⟨.type "code", none, .fields #[.str (.ofString "is_row") 1605, .str (.ofString "is_row") 1606, .str (.ofString "/claim/cut.py") 1607, .int 503 0, .int 1 0, .int 0 0, .int 0 0, .int 3 0, .ref 1098, .bool true, .int 181 0, .ref 1099, .none, .none, .none, .ref 1100, .int 1608 0, .int 503 0, .str (.ofString "/claim/cut.py") 1609], #[]⟩),
  (1108, ⟨.type "code", none, .fields #[.str (.ofString "is_pair") 1611, .str (.ofString "is_pair") 1612, .str (.ofString "/claim/cut.py") 1613, .int 505 0, .int 1 0, .int 0 0, .int 0 0, .int 3 0, .ref 1103, .bool true, .int 181 0, .ref 1104, .none, .ref 1105, .ref 1106, .ref 1107, .int 1615 0, .int 505 0, .str (.ofString "/claim/cut.py") 1616], #[]⟩),
  (1115, ⟨.type "code", none, .fields #[.str (.ofString "need_pairs") 1618, .str (.ofString "need_pairs") 1619, .str (.ofString "/claim/cut.py") 1620, .int 509 0, .int 1 0, .int 0 0, .int 0 0, .int 3 0, .ref 1110, .bool true, .int 181 0, .ref 1111, .none, .ref 1112, .ref 1113, .ref 1114, .int 1624 0, .int 509 0, .str (.ofString "/claim/cut.py") 1625], #[]⟩),
  (1120, ⟨.type "code", none, .fields #[.str (.ofString "joined_pairs") 1627, .str (.ofString "joined_pairs") 1628, .str (.ofString "/claim/cut.py") 1629, .int 513 0, .int 1 0, .int 0 0, .int 0 0, .int 3 0, .ref 1117, .bool true, .int 181 0, .ref 1118, .none, .none, .none, .ref 1119, .int 1630 0, .int 513 0, .str (.ofString "/claim/cut.py") 1631], #[]⟩),
  (1144, ⟨.type "code", none, .fields #[.str (.ofString "__init__") 1658, .str (.ofString "Lots.__init__") 1659, .str (.ofString "/claim/cut.py") 1660, .int 526 0, .int 1 0, .int 0 0, .int 0 0, .int 7 0, .ref 1141, .bool true, .int 181 0, .ref 1142, .none, .none, .none, .ref 1143, .int 1661 0, .int 526 0, .str (.ofString "/claim/cut.py") 1662], #[]⟩),
  (1169, ⟨.type "code", none, .fields #[.str (.ofString "__iter__") 1704, .str (.ofString "Lots.__iter__") 1705, .str (.ofString "/claim/cut.py") 1706, .int 552 0, .int 1 0, .int 0 0, .int 0 0, .int 3 0, .ref 1164, .bool true, .int 181 0, .ref 1165, .none, .ref 1166, .ref 1167, .ref 1168, .int 1708 0, .int 552 0, .str (.ofString "/claim/cut.py") 1709], #[]⟩),
  (1176, ⟨.type "code", none, .fields #[.str (.ofString "__len__") 1711, .str (.ofString "Lots.__len__") 1712, .str (.ofString "/claim/cut.py") 1713, .int 555 0, .int 1 0, .int 0 0, .int 0 0, .int 3 0, .ref 1171, .bool true, .int 181 0, .ref 1172, .none, .ref 1173, .ref 1174, .ref 1175, .int 1715 0, .int 555 0, .str (.ofString "/claim/cut.py") 1716], #[]⟩),
  (1190, ⟨.type "code", none, .fields #[.str (.ofString "__add__") 1726, .str (.ofString "Lots.__add__") 1727, .str (.ofString "/claim/cut.py") 1728, .int 561 0, .int 2 0, .int 0 0, .int 0 0, .int 3 0, .ref 1185, .bool true, .int 181 0, .ref 1186, .none, .ref 1187, .ref 1188, .ref 1189, .int 1732 0, .int 561 0, .str (.ofString "/claim/cut.py") 1733], #[]⟩)]
def ob10 (P : Params) : List (Addr × Obj) := [
  (1318, ⟨.type "code", none, .fields #[.str (.ofString "need_many") 1901, .str (.ofString "need_many") 1902, .str (.ofString "/claim/cut.py") 1903, .int 660 0, .int 2 0, .int 0 0, .int 0 0, .int 3 0, .ref 1313, .bool true, .int 181 0, .ref 1314, .none, .ref 1315, .ref 1316, .ref 1317, .int 1906 0, .int 660 0, .str (.ofString "/claim/cut.py") 1907], #[]⟩),
  (1325, ⟨.type "code", none, .fields #[.str (.ofString "need_columns") 1909, .str (.ofString "need_columns") 1910, .str (.ofString "/claim/cut.py") 1911, .int 663 0, .int 2 0, .int 0 0, .int 0 0, .int 3 0, .ref 1320, .bool true, .int 181 0, .ref 1321, .none, .ref 1322, .ref 1323, .ref 1324, .int 1915 0, .int 663 0, .str (.ofString "/claim/cut.py") 1916], #[]⟩),
  (1330, ⟨.type "code", none, .fields #[.str (.ofString "are_names") 1918, .str (.ofString "are_names") 1919, .str (.ofString "/claim/cut.py") 1920, .int 667 0, .int 1 0, .int 0 0, .int 0 0, .int 3 0, .ref 1327, .bool true, .int 181 0, .ref 1328, .none, .none, .none, .ref 1329, .int 1921 0, .int 667 0, .str (.ofString "/claim/cut.py") 1922], #[]⟩),
  (1335, ⟨.type "code", none, .fields #[.str (.ofString "are_rows") 1924, .str (.ofString "are_rows") 1925, .str (.ofString "/claim/cut.py") 1926, .int 673 0, .int 2 0, .int 0 0, .int 0 0, .int 3 0, .ref 1332, .bool true, .int 181 0, .ref 1333, .none, .none, .none, .ref 1334, .int 1927 0, .int 673 0, .str (.ofString "/claim/cut.py") 1928], #[]⟩),
  (1349, ⟨.type "code", none, .fields #[.str (.ofString "__init__") 1944, .str (.ofString "Question.__init__") 1945, .str (.ofString "/claim/cut.py") 1946, .int 678 0, .int 4 0, .int 0 0, .int 0 0, .int 3 0, .ref 1344, .bool true, .int 181 0, .ref 1345, .none, .ref 1346, .ref 1347, .ref 1348, .int 1951 0, .int 678 0, .str (.ofString "/claim/cut.py") 1952], #[]⟩),
  (1366, ⟨.type "code", none, .fields #[.str (.ofString "columns") 1974, .str (.ofString "Question.columns") 1975, .str (.ofString "/claim/cut.py") 1976, .int 689 0, .int 1 0, .int 0 0, .int 0 0, .int 3 0, .ref 1361, .bool true, .int 181 0, .ref 1362, .none, .ref 1363, .ref 1364, .ref 1365, .int 1978 0, .int 689 0, .str (.ofString "/claim/cut.py") 1979], #[]⟩),
  (1372, ⟨.type "code", none, .fields #[.str (.ofString "told") 1982, .str (.ofString "Question.told") 1983, .str (.ofString "/claim/cut.py") 1984, .int 693 0, .int 2 0, .int 0 0, .int 0 0, .int 3 0, .ref 1369, .bool true, .int 181 0, .ref 1370, .none, .none, .none, .ref 1371, .int 1985 0, .int 693 0, .str (.ofString "/claim/cut.py") 1986], #[]⟩),
  (1379, ⟨.type "code", none, .fields #[.str (.ofString "joined") 1988, .str (.ofString "Question.joined") 1989, .str (.ofString "/claim/cut.py") 1990, .int 696 0, .int 1 0, .int 0 0, .int 0 0, .int 7 0, .ref 1374, .bool true, .int 181 0, .ref 1375, .none, .ref 1376, .ref 1377, .ref 1378, .int 1993 0, .int 696 0, .str (.ofString "/claim/cut.py") 1994], #[]⟩),
  (1386, ⟨.type "code", none, .fields #[.str (.ofString "matches") 1996, .str (.ofString "Question.matches") 1997, .str (.ofString "/claim/cut.py") 1998, .int 699 0, .int 3 0, .int 0 0, .int 0 0, .int 3 0, .ref 1381, .bool true, .int 181 0, .ref 1382, .none, .ref 1383, .ref 1384, .ref 1385, .int 2007 0, .int 699 0, .str (.ofString "/claim/cut.py") 2008], #[]⟩),
  (1393, ⟨.type "code", none, .fields #[.str (.ofString "on") 2010, .str (.ofString "Question.on") 2011, .str (.ofString "/claim/cut.py") 2012, .int 708 0, .int 2 0, .int 0 0, .int 0 0, .int 7 0, .ref 1388, .bool true, .int 181 0, .ref 1389, .none, .ref 1390, .ref 1391, .ref 1392, .int 2018 0, .int 708 0, .str (.ofString "/claim/cut.py") 2019], #[]⟩),
  (1435, ⟨.type "code", none, .fields #[.str (.ofString "__init__") 2068, .str (.ofString "Some.__init__") 2069, .str (.ofString "/claim/cut.py") 2070, .int 736 0, .int 2 0, .int 0 0, .int 0 0, .int 3 0, .ref 1430, .bool true, .int 181 0, .ref 1431, .none, .ref 1432, .ref 1433, .ref 1434, .int 2074 0, .int 736 0, .str (.ofString "/claim/cut.py") 2075], #[]⟩),
  (1442, ⟨.type "code", none, .fields #[.str (.ofString "told") 2077, .str (.ofString "Some.told") 2078, .str (.ofString "/claim/cut.py") 2079, .int 739 0, .int 2 0, .int 0 0, .int 0 0, .int 3 0, .ref 1437, .bool true, .int 181 0, .ref 1438, .none, .ref 1439, .ref 1440, .ref 1441, .int 2082 0, .int 739 0, .str (.ofString "/claim/cut.py") 2083], #[]⟩),
  (1449, ⟨.type "code", none, .fields #[.str (.ofString "joined") 2085, .str (.ofString "Some.joined") 2086, .str (.ofString "/claim/cut.py") 2087, .int 742 0, .int 1 0, .int 0 0, .int 0 0, .int 7 0, .ref 1444, .bool true, .int 181 0, .ref 1445, .none, .ref 1446, .ref 1447, .ref 1448, .int 2090 0, .int 742 0, .str (.ofString "/claim/cut.py") 2091], #[]⟩),
  (1470, ⟨.type "code", none, .fields #[.str (.ofString "__init__") 2112, .str (.ofString "Many.__init__") 2113, .str (.ofString "/claim/cut.py") 2114, .int 747 0, .int 2 0, .int 0 0, .int 0 0, .int 3 0, .ref 1465, .bool true, .int 181 0, .ref 1466, .none, .ref 1467, .ref 1468, .ref 1469, .int 2118 0, .int 747 0, .str (.ofString "/claim/cut.py") 2119], #[]⟩),
  (1491, ⟨.type "code", none, .fields #[.str (.ofString "__init__") 2140, .str (.ofString "AtLeast.__init__") 2141, .str (.ofString "/claim/cut.py") 2142, .int 752 0, .int 3 0, .int 0 0, .int 0 0, .int 3 0, .ref 1486, .bool true, .int 181 0, .ref 1487, .none, .ref 1488, .ref 1489, .ref 1490, .int 2147 0, .int 752 0, .str (.ofString "/claim/cut.py") 2148], #[]⟩),
  (1496, ⟨.type "code", none, .fields #[.str (.ofString "told") 2150, .str (.ofString "AtLeast.told") 2151, .str (.ofString "/claim/cut.py") 2152, .int 756 0, .int 2 0, .int 0 0, .int 0 0, .int 3 0, .ref 1493, .bool true, .int 181 0, .ref 1494, .none, .none, .none, .ref 1495, .int 2153 0, .int 756 0, .str (.ofString "/claim/cut.py") 2154], #[]⟩),
  (1531, ⟨.type "code", none, .fields #[.str (.ofString "__init__") 2190, .str (.ofString "OfColumn.__init__") 2191, .str (.ofString "/claim/cut.py") 2192, .int 769 0, .int 4 0, .int 0 0, .int 0 0, .int 3 0, .ref 1526, .bool true, .int 181 0, .ref 1527, .none, .ref 1528, .ref 1529, .ref 1530, .int 2198 0, .int 769 0, .str (.ofString "/claim/cut.py") 2199], #[]⟩),
  (1559, ⟨.type "code", none, .fields #[.str (.ofString "__init__") 2227, .str (.ofString "Greatest.__init__") 2228, .str (.ofString "/claim/cut.py") 2229, .int 779 0, .int 3 0, .int 0 0, .int 0 0, .int 3 0, .ref 1554, .bool true, .int 181 0, .ref 1555, .none, .ref 1556, .ref 1557, .ref 1558, .int 2234 0, .int 779 0, .str (.ofString "/claim/cut.py") 2235], #[]⟩),
  (1564, ⟨.type "code", none, .fields #[.str (.ofString "told") 2237, .str (.ofString "Greatest.told") 2238, .str (.ofString "/claim/cut.py") 2239, .int 782 0, .int 2 0, .int 0 0, .int 0 0, .int 3 0, .ref 1561, .bool true, .int 181 0, .ref 1562, .none, .none, .none, .ref 1563, .int 2240 0, .int 782 0, .str (.ofString "/claim/cut.py") 2241], #[]⟩),
  (1569, ⟨.type "code", none, .fields #[.str (.ofString "joined") 2243, .str (.ofString "Greatest.joined") 2244, .str (.ofString "/claim/cut.py") 2245, .int 786 0, .int 1 0, .int 0 0, .int 0 0, .int 7 0, .ref 1566, .bool true, .int 181 0, .ref 1567, .none, .none, .none, .ref 1568, .int 2246 0, .int 786 0, .str (.ofString "/claim/cut.py") 2247], #[]⟩)]
def ob11 (P : Params) : List (Addr × Obj) := [
  (1590, ⟨.type "code", none, .fields #[.str (.ofString "__init__") 2268, .str (.ofString "Least.__init__") 2269, .str (.ofString "/claim/cut.py") 2270, .int 791 0, .int 3 0, .int 0 0, .int 0 0, .int 3 0, .ref 1585, .bool true, .int 181 0, .ref 1586, .none, .ref 1587, .ref 1588, .ref 1589, .int 2275 0, .int 791 0, .str (.ofString "/claim/cut.py") 2276], #[]⟩),
  (1595, ⟨.type "code", none, .fields #[.str (.ofString "told") 2278, .str (.ofString "Least.told") 2279, .str (.ofString "/claim/cut.py") 2280, .int 794 0, .int 2 0, .int 0 0, .int 0 0, .int 3 0, .ref 1592, .bool true, .int 181 0, .ref 1593, .none, .none, .none, .ref 1594, .int 2281 0, .int 794 0, .str (.ofString "/claim/cut.py") 2282], #[]⟩),
  (1600, ⟨.type "code", none, .fields #[.str (.ofString "joined") 2284, .str (.ofString "Least.joined") 2285, .str (.ofString "/claim/cut.py") 2286, .int 798 0, .int 1 0, .int 0 0, .int 0 0, .int 7 0, .ref 1597, .bool true, .int 181 0, .ref 1598, .none, .none, .none, .ref 1599, .int 2287 0, .int 798 0, .str (.ofString "/claim/cut.py") 2288], #[]⟩),
  (1621, ⟨.type "code", none, .fields #[.str (.ofString "__init__") 2309, .str (.ofString "Total.__init__") 2310, .str (.ofString "/claim/cut.py") 2311, .int 803 0, .int 3 0, .int 0 0, .int 0 0, .int 3 0, .ref 1616, .bool true, .int 181 0, .ref 1617, .none, .ref 1618, .ref 1619, .ref 1620, .int 2316 0, .int 803 0, .str (.ofString "/claim/cut.py") 2317], #[]⟩),
  (1626, ⟨.type "code", none, .fields #[.str (.ofString "told") 2319, .str (.ofString "Total.told") 2320, .str (.ofString "/claim/cut.py") 2321, .int 806 0, .int 2 0, .int 0 0, .int 0 0, .int 3 0, .ref 1623, .bool true, .int 181 0, .ref 1624, .none, .none, .none, .ref 1625, .int 2322 0, .int 806 0, .str (.ofString "/claim/cut.py") 2323], #[]⟩),
  (1647, ⟨.type "code", none, .fields #[.str (.ofString "__init__") 2344, .str (.ofString "Top.__init__") 2345, .str (.ofString "/claim/cut.py") 2346, .int 811 0, .int 4 0, .int 0 0, .int 0 0, .int 3 0, .ref 1642, .bool true, .int 181 0, .ref 1643, .none, .ref 1644, .ref 1645, .ref 1646, .int 2352 0, .int 811 0, .str (.ofString "/claim/cut.py") 2353], #[]⟩),
  (1652, ⟨.type "code", none, .fields #[.str (.ofString "told") 2355, .str (.ofString "Top.told") 2356, .str (.ofString "/claim/cut.py") 2357, .int 815 0, .int 2 0, .int 0 0, .int 0 0, .int 3 0, .ref 1649, .bool true, .int 181 0, .ref 1650, .none, .none, .none, .ref 1651, .int 2358 0, .int 815 0, .str (.ofString "/claim/cut.py") 2359], #[]⟩),
  (1657, ⟨.type "code", none, .fields #[.str (.ofString "joined") 2361, .str (.ofString "Top.joined") 2362, .str (.ofString "/claim/cut.py") 2363, .int 819 0, .int 1 0, .int 0 0, .int 0 0, .int 7 0, .ref 1654, .bool true, .int 181 0, .ref 1655, .none, .none, .none, .ref 1656, .int 2364 0, .int 819 0, .str (.ofString "/claim/cut.py") 2365], #[]⟩),
  (1695, ⟨.type "code", none, .fields #[.str (.ofString "_law_pen") 2407, .str (.ofString "_law_pen") 2408, .str (.ofString "/claim/cut.py") 2409, .int 858 0, .int 1 0, .int 0 0, .int 0 0, .int 3 0, .ref 1690, .bool true, .int 181 0, .ref 1691, .none, .ref 1692, .ref 1693, .ref 1694, .int 2411 0, .int 858 0, .str (.ofString "/claim/cut.py") 2412], #[]⟩),
  (1702, ⟨.type "code", none, .fields #[.str (.ofString "_law_draw") 2414, .str (.ofString "_law_draw") 2415, .str (.ofString "/claim/cut.py") 2416, .int 860 0, .int 2 0, .int 0 0, .int 0 0, .int 3 0, .ref 1697, .bool true, .int 181 0, .ref 1698, .none, .ref 1699, .ref 1700, .ref 1701, .int 2424 0, .int 860 0, .str (.ofString "/claim/cut.py") 2425], #[]⟩),
  (1709, ⟨.type "code", none, .fields #[.str (.ofString "_law_pick") 2427, .str (.ofString "_law_pick") 2428, .str (.ofString "/claim/cut.py") 2429, .int 877 0, .int 2 0, .int 0 0, .int 0 0, .int 3 0, .ref 1704, .bool true, .int 181 0, .ref 1705, .none, .ref 1706, .ref 1707, .ref 1708, .int 2432 0, .int 877 0, .str (.ofString "/claim/cut.py") 2433], #[]⟩),
  (1714, ⟨.type "code", none, .fields #[.str (.ofString "_law_drawn_test") 2435, .str (.ofString "_law_drawn_test") 2436, .str (.ofString "/claim/cut.py") 2437, .int 879 0, .int 4 0, .int 0 0, .int 0 0, .int 3 0, .ref 1711, .bool true, .int 181 0, .ref 1712, .none, .none, .none, .ref 1713, .int 2438 0, .int 879 0, .str (.ofString "/claim/cut.py") 2439], #[]⟩),
  (1728, ⟨.type "code", none, .fields #[.str (.ofString "_law_test") 2455, .str (.ofString "_law_test") 2456, .str (.ofString "/claim/cut.py") 2457, .int 913 0, .int 1 0, .int 0 0, .int 0 0, .int 3 0, .ref 1723, .bool true, .int 181 0, .ref 1724, .none, .ref 1725, .ref 1726, .ref 1727, .int 2463 0, .int 913 0, .str (.ofString "/claim/cut.py") 2464], #[]⟩),
  (1738, ⟨.type "code", none, .fields #[.str (.ofString "_law_drawn_pairs") 2472, .str (.ofString "_law_drawn_pairs") 2473, .str (.ofString "/claim/cut.py") 2474, .int 935 0, .int 3 0, .int 0 0, .int 0 0, .int 3 0, .ref 1735, .bool true, .int 181 0, .ref 1736, .none, .none, .none, .ref 1737, .int 2475 0, .int 935 0, .str (.ofString "/claim/cut.py") 2476], #[]⟩),
  (1745, ⟨.type "code", none, .fields #[.str (.ofString "_law_lots") 2478, .str (.ofString "_law_lots") 2479, .str (.ofString "/claim/cut.py") 2480, .int 941 0, .int 1 0, .int 0 0, .int 0 0, .int 3 0, .ref 1740, .bool true, .int 181 0, .ref 1741, .none, .ref 1742, .ref 1743, .ref 1744, .int 2484 0, .int 941 0, .str (.ofString "/claim/cut.py") 2485], #[]⟩),
  (1750, ⟨.type "code", none, .fields #[.str (.ofString "_law_negated") 2487, .str (.ofString "_law_negated") 2488, .str (.ofString "/claim/cut.py") 2489, .int 946 0, .int 1 0, .int 0 0, .int 0 0, .int 3 0, .ref 1747, .bool true, .int 181 0, .ref 1748, .none, .none, .none, .ref 1749, .int 2490 0, .int 946 0, .str (.ofString "/claim/cut.py") 2491], #[]⟩),
  (1757, ⟨.type "code", none, .fields #[.str (.ofString "_law_rows_right") 2493, .str (.ofString "_law_rows_right") 2494, .str (.ofString "/claim/cut.py") 2495, .int 951 0, .int 4 0, .int 0 0, .int 0 0, .int 3 0, .ref 1752, .bool true, .int 181 0, .ref 1753, .none, .ref 1754, .ref 1755, .ref 1756, .int 2505 0, .int 951 0, .str (.ofString "/claim/cut.py") 2506], #[]⟩),
  (1764, ⟨.type "code", none, .fields #[.str (.ofString "_law_values_right") 2508, .str (.ofString "_law_values_right") 2509, .str (.ofString "/claim/cut.py") 2510, .int 961 0, .int 5 0, .int 0 0, .int 0 0, .int 3 0, .ref 1759, .bool true, .int 181 0, .ref 1760, .none, .ref 1761, .ref 1762, .ref 1763, .int 2521 0, .int 961 0, .str (.ofString "/claim/cut.py") 2522], #[]⟩),
  (1771, ⟨.type "code", none, .fields #[.str (.ofString "_law_turned_right") 2524, .str (.ofString "_law_turned_right") 2525, .str (.ofString "/claim/cut.py") 2526, .int 975 0, .int 4 0, .int 0 0, .int 0 0, .int 3 0, .ref 1766, .bool true, .int 181 0, .ref 1767, .none, .ref 1768, .ref 1769, .ref 1770, .int 2535 0, .int 975 0, .str (.ofString "/claim/cut.py") 2536], #[]⟩),
  (1776, ⟨.type "code", none, .fields #[.str (.ofString "_law_right") 2538, .str (.ofString "_law_right") 2539, .str (.ofString "/claim/cut.py") 2540, .int 984 0, .int 1 0, .int 0 0, .int 0 0, .int 3 0, .ref 1773, .bool true, .int 181 0, .ref 1774, .none, .none, .none, .ref 1775, .int 2541 0, .int 984 0, .str (.ofString "/claim/cut.py") 2542], #[]⟩)]
def ob12 (P : Params) : List (Addr × Obj) := [
  (1783, ⟨.type "code", none, .fields #[.str (.ofString "law") 2544, .str (.ofString "law") 2545, .str (.ofString "/claim/cut.py") 2546, .int 999 0, .int 1 0, .int 0 0, .int 0 0, .int 3 0, .ref 1778, .bool true, .int 181 0, .ref 1779, .none, .ref 1780, .ref 1781, .ref 1782, .int 2550 0, .int 999 0, .str (.ofString "/claim/cut.py") 2551], #[]⟩)]
def aA : Df → Addr
  | .dis_name => 271
  | .dis_integer => 278
  | .dis_value => 285
  | .dis_below => 299
  | .dis_ahead => 306
  | .dascending_rows => 311
  | .dascending_names => 316
  | .dnot_of => 447
  | .dside_at => 454
  | .dChange_init => 468
  | .dChange_side => 475
  | .djoined_links => 487
  | .dFilter_init => 499
  | .dFilter_columns => 516
  | .dFilter_constants => 524
  | .dFilter_links => 532
  | .dFilter_leaves => 540
  | .dFilter_judged => 547
  | .dFilter_len => 568
  | .dFilter_and => 575
  | .dFilter_or => 582
  | .dFilter_invert => 589
  | .dFilter_mirrored => 610
  | .dFilter_led => 617
  | .dneeded => 631
  | .dCompared_init => 645
  | .dCompared_is_so => 652
  | .dCompared_judged => 659
  | .dCompared_led => 666
  | .dLess_is_so => 699
  | .dAtMost_is_so => 718
  | .dcompared => 742
  | .dPicked_init => 758
  | .dAmong_init => 777
  | .dAmong_judged => 784
  | .dAmong_led => 789
  | .dMissing_init => 822
  | .dMissing_judged => 829
  | .dMissing_led => 836
  | .dFixed_init => 871
  | .dFixed_judged => 878
  | .dTurned_init => 937
  | .dTurned_leaves => 944
  | .dTurned_judged => 951
  | .dTurned_led => 958
  | .dTurned_invert => 965
  | .dJoined_init => 998
  | .dJoined_leaves => 1005
  | .dJoined_led => 1012
  | .dBoth_judged => 1045
  | .dEither_judged => 1064
  | .djoined => 1076
  | .dis_row => 1102
  | .dis_pair => 1109
  | .dneed_pairs => 1116
  | .djoined_pairs => 1121
  | .dLots_init => 1145
  | .dLots_iter => 1170
  | .dLots_len => 1177
  | .dLots_add => 1191
  | .dneed_many => 1319
  | .dneed_columns => 1326
  | .dare_names => 1331
  | .dare_rows => 1336
  | .dQuestion_init => 1350
  | .dQuestion_columns => 1367
  | .dQuestion_told => 1373
  | .dQuestion_joined => 1380
  | .dQuestion_matches => 1387
  | .dQuestion_on => 1394
  | .dSome_init => 1436
  | .dSome_told => 1443
  | .dSome_joined => 1450
  | .dMany_init => 1471
  | .dAtLeast_init => 1492
  | .dAtLeast_told => 1497
  | .dOfColumn_init => 1532
  | .dGreatest_init => 1560
  | .dGreatest_told => 1565
  | .dGreatest_joined => 1570
  | .dLeast_init => 1591
  | .dLeast_told => 1596
  | .dLeast_joined => 1601
  | .dTotal_init => 1622
  | .dTotal_told => 1627
  | .dTop_init => 1648
  | .dTop_told => 1653
  | .dTop_joined => 1658
  | .dlaw_pen => 1696
  | .dlaw_draw => 1703
  | .dlaw_pick => 1710
  | .dlaw_drawn_test => 1715
  | .dlaw_test => 1729
  | .dlaw_drawn_pairs => 1739
  | .dlaw_lots => 1746
  | .dlaw_negated => 1751
  | .dlaw_rows_right => 1758
  | .dlaw_values_right => 1765
  | .dlaw_turned_right => 1772
  | .dlaw_right => 1777
  | .dlaw => 1784
def aB : Cl → Addr
  | .cChange => 478
  | .cFilter => 620
  | .cCompared => 683
  | .cLess => 702
  | .cAtMost => 721
  | .cSame => 733
  | .cPicked => 761
  | .cAmong => 804
  | .cMissing => 853
  | .cFixed => 895
  | .cAlways => 907
  | .cNever => 919
  | .cTurned => 982
  | .cJoined => 1029
  | .cBoth => 1048
  | .cEither => 1067
  | .cLots => 1224
  | .cQuestion => 1416
  | .cSome => 1453
  | .cMany => 1474
  | .cAtLeast => 1514
  | .cOfColumn => 1542
  | .cGreatest => 1573
  | .cLeast => 1604
  | .cTotal => 1630
  | .cTop => 1668
def aZ : Cl → Addr
  | .cCompared => 635
  | .cPicked => 746
  | .cAmong => 767
  | .cMissing => 810
  | .cFixed => 859
  | .cTurned => 925
  | .cJoined => 988
  | .cSome => 1424
  | .cMany => 1459
  | .cAtLeast => 1480
  | .cOfColumn => 1520
  | .cGreatest => 1548
  | .cLeast => 1579
  | .cTotal => 1610
  | .cTop => 1636
  | _ => 0
/-- what a def's object holds besides -/
structure FR where
  kV : Value
  doc : Value
  pm : Value
  an : Option Addr
  c0 : Addr
  ct : Value
def fr : Df → FR
  | .dis_name => ⟨.none, .none, .str (.ofString "headskip.names") 515, none, 270, .none⟩
  | .dis_integer => ⟨.none, .none, .str (.ofString "headskip.names") 515, none, 277, .none⟩
  | .dis_value => ⟨.none, .none, .str (.ofString "headskip.names") 515, none, 284, .none⟩
  | .dis_below => ⟨.none, .none, .str (.ofString "headskip.names") 515, none, 298, .none⟩
  | .dis_ahead => ⟨.none, .none, .str (.ofString "headskip.names") 515, none, 305, .none⟩
  | .dascending_rows => ⟨.none, .none, .str (.ofString "headskip.names") 515, none, 310, .none⟩
  | .dascending_names => ⟨.none, .none, .str (.ofString "headskip.names") 515, none, 315, .none⟩
  | .dnot_of => ⟨.none, .none, .str (.ofString "headskip.filter_parts") 743, none, 446, .none⟩
  | .dside_at => ⟨.none, .none, .str (.ofString "headskip.filter_parts") 743, none, 453, .none⟩
  | .dChange_init => ⟨.none, .none, .str (.ofString "headskip.filter_parts") 743, none, 467, .none⟩
  | .dChange_side => ⟨.none, .none, .str (.ofString "headskip.filter_parts") 743, none, 474, .none⟩
  | .djoined_links => ⟨.none, .none, .str (.ofString "headskip.filter_parts") 743, none, 486, .none⟩
  | .dFilter_init => ⟨.none, .none, .str (.ofString "headskip.filters") 815, none, 498, .none⟩
  | .dFilter_columns => ⟨.none, .none, .str (.ofString "headskip.filters") 815, none, 515, .none⟩
  | .dFilter_constants => ⟨.none, .none, .str (.ofString "headskip.filters") 815, none, 523, .none⟩
  | .dFilter_links => ⟨.none, .none, .str (.ofString "headskip.filters") 815, none, 531, .none⟩
  | .dFilter_leaves => ⟨.none, .none, .str (.ofString "headskip.filters") 815, none, 539, .none⟩
  | .dFilter_judged => ⟨.none, .none, .str (.ofString "headskip.filters") 815, none, 546, .none⟩
  | .dFilter_len => ⟨.none, .none, .str (.ofString "headskip.filters") 815, none, 567, .none⟩
  | .dFilter_and => ⟨.none, .none, .str (.ofString "headskip.filters") 815, none, 574, .none⟩
  | .dFilter_or => ⟨.none, .none, .str (.ofString "headskip.filters") 815, none, 581, .none⟩
  | .dFilter_invert => ⟨.none, .none, .str (.ofString "headskip.filters") 815, none, 588, .none⟩
  | .dFilter_mirrored => ⟨.none, .none, .str (.ofString "headskip.filters") 815, none, 609, .none⟩
  | .dFilter_led => ⟨.none, .none, .str (.ofString "headskip.filters") 815, none, 616, .none⟩
  | .dneeded => ⟨.none, .none, .str (.ofString "headskip.filters") 815, none, 630, .none⟩
  | .dCompared_init => ⟨.none, .none, .str (.ofString "headskip.filters") 815, none, 644, .ref 640⟩
  | .dCompared_is_so => ⟨.none, .none, .str (.ofString "headskip.filters") 815, none, 651, .none⟩
  | .dCompared_judged => ⟨.none, .none, .str (.ofString "headskip.filters") 815, none, 658, .none⟩
  | .dCompared_led => ⟨.none, .none, .str (.ofString "headskip.filters") 815, none, 665, .none⟩
  | .dLess_is_so => ⟨.none, .none, .str (.ofString "headskip.filters") 815, none, 698, .none⟩
  | .dAtMost_is_so => ⟨.none, .none, .str (.ofString "headskip.filters") 815, none, 717, .none⟩
  | .dcompared => ⟨.none, .none, .str (.ofString "headskip.filters") 815, none, 741, .none⟩
  | .dPicked_init => ⟨.none, .none, .str (.ofString "headskip.filters") 815, none, 757, .ref 751⟩
  | .dAmong_init => ⟨.none, .none, .str (.ofString "headskip.filters") 815, none, 776, .ref 772⟩
  | .dAmong_judged => ⟨.none, .none, .str (.ofString "headskip.filters") 815, none, 783, .none⟩
  | .dAmong_led => ⟨.none, .none, .str (.ofString "headskip.filters") 815, none, 788, .none⟩
  | .dMissing_init => ⟨.none, .none, .str (.ofString "headskip.filters") 815, none, 821, .ref 815⟩
  | .dMissing_judged => ⟨.none, .none, .str (.ofString "headskip.filters") 815, none, 828, .none⟩
  | .dMissing_led => ⟨.none, .none, .str (.ofString "headskip.filters") 815, none, 835, .none⟩
  | .dFixed_init => ⟨.none, .none, .str (.ofString "headskip.filters") 815, none, 870, .ref 864⟩
  | .dFixed_judged => ⟨.none, .none, .str (.ofString "headskip.filters") 815, none, 877, .none⟩
  | .dTurned_init => ⟨.none, .none, .str (.ofString "headskip.filters") 815, none, 936, .ref 930⟩
  | .dTurned_leaves => ⟨.none, .none, .str (.ofString "headskip.filters") 815, none, 943, .none⟩
  | .dTurned_judged => ⟨.none, .none, .str (.ofString "headskip.filters") 815, none, 950, .none⟩
  | .dTurned_led => ⟨.none, .none, .str (.ofString "headskip.filters") 815, none, 957, .none⟩
  | .dTurned_invert => ⟨.none, .none, .str (.ofString "headskip.filters") 815, none, 964, .none⟩
  | .dJoined_init => ⟨.none, .none, .str (.ofString "headskip.filters") 815, none, 997, .ref 993⟩
  | .dJoined_leaves => ⟨.none, .none, .str (.ofString "headskip.filters") 815, none, 1004, .none⟩
  | .dJoined_led => ⟨.none, .none, .str (.ofString "headskip.filters") 815, none, 1011, .none⟩
  | .dBoth_judged => ⟨.none, .none, .str (.ofString "headskip.filters") 815, none, 1044, .none⟩
  | .dEither_judged => ⟨.none, .none, .str (.ofString "headskip.filters") 815, none, 1063, .none⟩
  | .djoined => ⟨.none, .none, .str (.ofString "headskip.filters") 815, none, 1075, .none⟩
  | .dis_row => ⟨.none, .none, .str (.ofString "headskip.lots") 1599, none, 1101, .none⟩
  | .dis_pair => ⟨.none, .none, .str (.ofString "headskip.lots") 1599, none, 1108, .none⟩
  | .dneed_pairs => ⟨.none, .none, .str (.ofString "headskip.lots") 1599, none, 1115, .none⟩
  | .djoined_pairs => ⟨.none, .none, .str (.ofString "headskip.lots") 1599, none, 1120, .none⟩
  | .dLots_init => ⟨.none, .none, .str (.ofString "headskip.lots") 1599, none, 1144, .none⟩
  | .dLots_iter => ⟨.none, .none, .str (.ofString "headskip.lots") 1599, none, 1169, .none⟩
  | .dLots_len => ⟨.none, .none, .str (.ofString "headskip.lots") 1599, none, 1176, .none⟩
  | .dLots_add => ⟨.none, .none, .str (.ofString "headskip.lots") 1599, none, 1190, .none⟩
  | .dneed_many => ⟨.none, .none, .str (.ofString "headskip.questions") 1895, none, 1318, .none⟩
  | .dneed_columns => ⟨.none, .none, .str (.ofString "headskip.questions") 1895, none, 1325, .none⟩
  | .dare_names => ⟨.none, .none, .str (.ofString "headskip.questions") 1895, none, 1330, .none⟩
  | .dare_rows => ⟨.none, .none, .str (.ofString "headskip.questions") 1895, none, 1335, .none⟩
  | .dQuestion_init => ⟨.none, .none, .str (.ofString "headskip.questions") 1895, none, 1349, .none⟩
  | .dQuestion_columns => ⟨.none, .none, .str (.ofString "headskip.questions") 1895, none, 1366, .none⟩
  | .dQuestion_told => ⟨.none, .none, .str (.ofString "headskip.questions") 1895, none, 1372, .none⟩
  | .dQuestion_joined => ⟨.none, .none, .str (.ofString "headskip.questions") 1895, none, 1379, .none⟩
  | .dQuestion_matches => ⟨.none, .none, .str (.ofString "headskip.questions") 1895, none, 1386, .none⟩
  | .dQuestion_on => ⟨.none, .none, .str (.ofString "headskip.questions") 1895, none, 1393, .none⟩
  | .dSome_init => ⟨.none, .none, .str (.ofString "headskip.questions") 1895, none, 1435, .ref 1429⟩
  | .dSome_told => ⟨.none, .none, .str (.ofString "headskip.questions") 1895, none, 1442, .none⟩
  | .dSome_joined => ⟨.none, .none, .str (.ofString "headskip.questions") 1895, none, 1449, .none⟩
  | .dMany_init => ⟨.none, .none, .str (.ofString "headskip.questions") 1895, none, 1470, .ref 1464⟩
  | .dAtLeast_init => ⟨.none, .none, .str (.ofString "headskip.questions") 1895, none, 1491, .ref 1485⟩
  | .dAtLeast_told => ⟨.none, .none, .str (.ofString "headskip.questions") 1895, none, 1496, .none⟩
  | .dOfColumn_init => ⟨.none, .none, .str (.ofString "headskip.questions") 1895, none, 1531, .ref 1525⟩
  | .dGreatest_init => ⟨.none, .none, .str (.ofString "headskip.questions") 1895, none, 1559, .ref 1553⟩
  | .dGreatest_told => ⟨.none, .none, .str (.ofString "headskip.questions") 1895, none, 1564, .none⟩
  | .dGreatest_joined => ⟨.none, .none, .str (.ofString "headskip.questions") 1895, none, 1569, .none⟩
  | .dLeast_init => ⟨.none, .none, .str (.ofString "headskip.questions") 1895, none, 1590, .ref 1584⟩
  | .dLeast_told => ⟨.none, .none, .str (.ofString "headskip.questions") 1895, none, 1595, .none⟩
  | .dLeast_joined => ⟨.none, .none, .str (.ofString "headskip.questions") 1895, none, 1600, .none⟩
  | .dTotal_init => ⟨.none, .none, .str (.ofString "headskip.questions") 1895, none, 1621, .ref 1615⟩
  | .dTotal_told => ⟨.none, .none, .str (.ofString "headskip.questions") 1895, none, 1626, .none⟩
  | .dTop_init => ⟨.none, .none, .str (.ofString "headskip.questions") 1895, none, 1647, .ref 1641⟩
  | .dTop_told => ⟨.none, .none, .str (.ofString "headskip.questions") 1895, none, 1652, .none⟩
  | .dTop_joined => ⟨.none, .none, .str (.ofString "headskip.questions") 1895, none, 1657, .none⟩
  | .dlaw_pen => ⟨.none, .none, .str (.ofString "law_headskip_k60_whole_questions_go_together") 2405, none, 1695, .none⟩
  | .dlaw_draw => ⟨.none, .none, .str (.ofString "law_headskip_k60_whole_questions_go_together") 2405, none, 1702, .none⟩
  | .dlaw_pick => ⟨.none, .none, .str (.ofString "law_headskip_k60_whole_questions_go_together") 2405, none, 1709, .none⟩
  | .dlaw_drawn_test => ⟨.none, .none, .str (.ofString "law_headskip_k60_whole_questions_go_together") 2405, none, 1714, .none⟩
  | .dlaw_test => ⟨.none, .none, .str (.ofString "law_headskip_k60_whole_questions_go_together") 2405, none, 1728, .none⟩
  | .dlaw_drawn_pairs => ⟨.none, .none, .str (.ofString "law_headskip_k60_whole_questions_go_together") 2405, none, 1738, .none⟩
  | .dlaw_lots => ⟨.none, .none, .str (.ofString "law_headskip_k60_whole_questions_go_together") 2405, none, 1745, .none⟩
  | .dlaw_negated => ⟨.none, .none, .str (.ofString "law_headskip_k60_whole_questions_go_together") 2405, none, 1750, .none⟩
  | .dlaw_rows_right => ⟨.none, .none, .str (.ofString "law_headskip_k60_whole_questions_go_together") 2405, none, 1757, .none⟩
  | .dlaw_values_right => ⟨.none, .none, .str (.ofString "law_headskip_k60_whole_questions_go_together") 2405, none, 1764, .none⟩
  | .dlaw_turned_right => ⟨.none, .none, .str (.ofString "law_headskip_k60_whole_questions_go_together") 2405, none, 1771, .none⟩
  | .dlaw_right => ⟨.none, .none, .str (.ofString "law_headskip_k60_whole_questions_go_together") 2405, none, 1776, .none⟩
  | .dlaw => ⟨.none, .none, .str (.ofString "law_headskip_k60_whole_questions_go_together") 2405, none, 1783, .none⟩
def fo (d : Df) : Obj := ⟨.type "function", none, .func (PySem.W.fnX d.nm d.qual (defArgs d.st) (defBody d.st) (defScope d.st) (clo aZ d) .none (fr d).kV (fr d).doc (fr d).pm (fr d).an (.ref (fr d).c0) (fr d).ct), #[]⟩
def obF : List (Addr × Obj) := Df.all.map fun d => (aA d, fo d)
def frK (P : Params) : PySem.W.Frag := ob1 P ++ (ob2 P ++ (ob3 P ++ (ob4 P ++ (ob5 P ++ (ob6 P ++ (obF ++ (ob7 P ++ (ob8 P ++ (ob9 P ++ (ob10 P ++ (ob11 P ++ (ob12 P))))))))))))
def asK : List Addr := ([3, 2, 266, 478, 620, 683, 702, 721, 733, 761, 804, 853, 895, 907, 919, 982, 1029, 1048, 1067, 1224, 1416, 1453, 1474, 1514, 1542, 1573, 1604, 1630, 1668, 477, 619, 682, 701, 720, 732, 760, 803, 852, 894, 906] : List Addr) ++ ([918, 981, 1028, 1047, 1066, 1223, 1415, 1452, 1473, 1513, 1541, 1572, 1603, 1629, 1667, 517, 525, 533, 1368, 635, 746, 767, 810, 859, 925, 988, 1424, 1459, 1480, 1520, 1548, 1579, 1610, 1636, 271, 278, 285, 299, 306, 311] : List Addr) ++ ([316, 447, 454, 468, 475, 487, 499, 516, 524, 532, 540, 547, 568, 575, 582, 589, 610, 617, 631, 645, 652, 659, 666, 699, 718, 742, 758, 777, 784, 789, 822, 829, 836, 871, 878, 937, 944, 951, 958, 965] : List Addr) ++ ([998, 1005, 1012, 1045, 1064, 1076, 1102, 1109, 1116, 1121, 1145, 1170, 1177, 1191, 1319, 1326, 1331, 1336, 1350, 1367, 1373, 1380, 1387, 1394, 1436, 1443, 1450, 1471, 1492, 1497, 1532, 1560, 1565, 1570, 1591, 1596, 1601, 1622, 1627, 1648] : List Addr) ++ ([1653, 1658, 1696, 1703, 1710, 1715, 1729, 1739, 1746, 1751, 1758, 1765, 1772, 1777, 1784, 270, 277, 284, 298, 305, 310, 315, 446, 453, 467, 474, 486, 498, 515, 523, 531, 539, 546, 567, 574, 581, 588, 609, 616, 630] : List Addr) ++ ([644, 651, 658, 665, 698, 717, 741, 757, 776, 783, 788, 821, 828, 835, 870, 877, 936, 943, 950, 957, 964, 997, 1004, 1011, 1044, 1063, 1075, 1101, 1108, 1115, 1120, 1144, 1169, 1176, 1190, 1318, 1325, 1330, 1335, 1349] : List Addr) ++ ([1366, 1372, 1379, 1386, 1393, 1435, 1442, 1449, 1470, 1491, 1496, 1531, 1559, 1564, 1569, 1590, 1595, 1600, 1621, 1626, 1647, 1652, 1657, 1695, 1702, 1709, 1714, 1728, 1738, 1745, 1750, 1757, 1764, 1771, 1776, 1783] : List Addr)
theorem asK_eq (P : Params) : asK = (frK P).map (·.1) := by rfl
end Hs
set_option Elab.async false
set_option linter.all false
set_option maxRecDepth 100000
set_option maxHeartbeats 0
/-! The top's run, once for each look at its end. -/
namespace Hs
open PySem PySem.Spec PyProof.Rows
abbrev R : PySem.W.OpenRow := PySem.W.OpenLaw.row PySem.Challenge.rw_headskip_k60_whole_questions_go_together
def nm0 : List PySem.Str := ["_wall", "__name__", "SkipError", "BadName", "BadFilter", "BadRow", "BadLots", "BadShelf", "BadTable", "BadQuestion", "BadText", "NoName", "NoBlock", "TooMany", "LETTERS", "MOST_LETTERS", "WORDS", "is_name", "is_integer", "is_value"]
def nm1 : List PySem.Str := ["is_index", "is_below", "is_ahead", "ascending_rows", "ascending_names", "FIGURES", "integer_in", "Words", "MOST_LISTED", "MOST_OPEN", "take_side", "take_list", "take_leaf", "take_head", "take_filter", "MOST_LINKED", "need_row", "not_of", "side_at", "Change"]
def nm2 : List PySem.Str := ["joined_links", "MOST_COMPARISONS", "MOST_CONSTANTS", "Filter", "needed", "Compared", "Less", "AtMost", "Same", "compared", "Picked", "Among", "Missing", "Fixed", "Always", "Never", "Turned", "Joined", "Both", "Either"]
def nm3 : List PySem.Str := ["joined", "leaf_of", "with_part", "made_of", "MOST_PAIRS", "MOST_WIDTH", "is_row", "is_pair", "need_pairs", "joined_pairs", "value_text", "pair_text", "Lots", "take_value", "take_later", "take_row", "take_pair", "MOST_BLOCKS", "Table", "MOST_COLUMNS"]
def nm4 : List PySem.Str := ["MOST_TOP", "need_many", "need_columns", "are_names", "are_rows", "Question", "Some", "Many", "AtLeast", "OfColumn", "Greatest", "Least", "Total", "Top", "many_in", "question_in", "made_question", "_law_pen", "_law_draw", "_law_pick"]
def nm5 : List PySem.Str := ["_law_drawn_test", "_law_truth", "_law_test", "_law_matches", "_law_drawn_pairs", "_law_lots", "_law_negated", "_law_rows_right", "_law_values_right", "_law_turned_right", "_law_right"]
def names : List PySem.Str := nm0 ++ (nm1 ++ (nm2 ++ (nm3 ++ (nm4 ++ (nm5)))))
abbrev QV : Program := PySem.W.view R.prog [120]
section
open PySem.W HandSHeadRun
noncomputable abbrev endR (w : World) (os : OsState) : Option SharedT := endF (stepQ (denQ tabQ) R.prog w) 40000 R.prog w os
noncomputable abbrev seeR (s : SharedT) := seenQ QV names (importedModules R.prog.main.body) (fun s => xlAt QV [] s && recOk R.toRowW.records s) s.abs
theorem run1 (w : World) (os : OsState) : (endR w os).map (fun s => (gensDone s.abs, asK.map (getT s), (seeR s).2.1, (seeR s).2.2.2)) = some (true, (frK w.params).map (fun p => some p.2), bltViewBooted, (true, pinGoodD (drecsOf QV), plainGoodE QV (looseW QV names), plainGoodD QV names, wideGood QV, clsGoodW QV names)) := by kernel_rfl
theorem run2 (w : World) (os : OsState) : (endR w os).map (fun s => (seeR s).1) = some (expectedOf QV) := by kernel_rfl
theorem run3 (w : World) (os : OsState) : (endR w os).map (fun s => (seeR s).2.2.1) = some true := by kernel_rfl
end
end Hs
set_option Elab.async false
set_option linter.all false
set_option maxRecDepth 100000
set_option maxHeartbeats 4000000
/-! Rules of our own: calls whose class is told by the reading, own operators, super().__init__(..). -/
namespace Hs
open PySem PySem.Spec PyProof.Rows L2
/-! ### calls by a positional promise -/
def tCR (sp : Sp) (t : TA) : TE := fun σ H Q => t σ H fun vs H1 => sp vs H1 Q E0
section
variable {X : Cx} {k : Nat} {f C : Addr} {sp : Sp} {x m : Str} {p pos apos : Pos} {e o : Expr} {es : List Expr} {ta te : TE} {t : TA}
theorem pe_fn (F : FnR X.prog X.w X.K X.mg X.base CX0 k f sp) (hr : Room k X.A) (hg : Gl X x) (hm : X.mg x = some (.ref f)) (hk : PySem.W.keepIn X.K (.ref f) = true) (ha : PA X (e :: es) t)
    (hdb : (x == ("__debug__" : Str)) = false := by decide) (he : starEach (e :: es) X.env = (false, eval e X.env) :: starEach es X.env := by rfl) (hpl : (backTo pos (starEach es X.env)).any (·.1) = false := by rfl) :
    PE X (.Call (.Name x p) (e :: es) [] pos) (tCR sp t) :=
  ⟨fun pins s σ H Q I h => wpAny_Call_Name_kw (ld_glob I hg hm
    (PySem.W.callWith_K (h₀ := X.base) I.ok.mod.kin hk (thn (ha.run pos pins s σ H _ I h) fun us s1 ⟨vs, H1, I1, r, q⟩ => ⟨I1.kIn, wpAny_call (run_fnR F hr pass0 I1 r q)⟩) he hpl) hdb)⟩

/-- methods, the class told by the reading: SP C is the promise of the method of the class at C -/
def MethAny (X : Cx) (m : Str) (k : Nat) (SP : Addr → Sp) (Good : Addr → Prop) : Prop :=
  ∀ C, Good C → Cls X.K C ∧ ∃ f, Meth X.K C m f ∧ FnR X.prog X.w X.K X.mg X.base CX0 k f (SP C)
def tMA (Good : Addr → Prop) (m : Str) (SP : Addr → Sp) (ta : TE) (t : TA) : TE := fun σ H Q => ta σ H fun x H1 => ∃ a C dx fs, x = .ref a ∧ H1 a = some (.ins C dx fs) ∧ Good C ∧ fs.lookup m = none ∧
  t σ H1 fun vs H2 => SP C (x :: vs) H2 Q E0
theorem pe_ma {SP : Addr → Sp} {Good : Addr → Prop} {pl : Sem Bool} (he : PE X o ta) (M : MethAny X m k SP Good) (hr : Room k X.A) (ha : PA X (e :: es) t)
    (hst : starEach (e :: es) X.env = (false, eval e X.env) :: starEach es X.env := by rfl) (hpl : (backTo pos (starEach es X.env)).any (·.1) = false := by rfl)
    (ht : eval (.Call (.Attribute o m apos) (e :: es) [] pos) X.env = (do
      let ov ← eval o X.env
      standAt apos.atName
      let (f, first) ← holding [ov] (getMethod ov m pl)
      callWith pos f first (backTo pos (starEach (e :: es) X.env)) (backToKw pos (keywordEach [] X.env))) := by rfl) :
    PE X (.Call (.Attribute o m apos) (e :: es) [] pos) (tMA Good m SP ta t) := by
  refine ⟨fun pins s σ H Q I h => ?_⟩
  refine PySem.W.methodCall_KW (pl := pl) (thn (he.run pins s σ H _ I h) fun u s1 ⟨x, H1, I1, rx, a, C, dx, fs, ex, ea, g, l, q⟩ => ?_) ht
  subst ex
  obtain rfl : u = Value.ref a := rx
  obtain ⟨c, f, hm, F⟩ := M C g
  refine getmeth_ok I1 ea c hm l ?_
  exact PySem.W.callWith_K (first := [.ref a]) (h₀ := X.base) I.ok.mod.kin hm.kp (thn (ha.run pos pins s1 σ H1 _ I1 q) fun us s2 ⟨vs, H2, I2, r, q2⟩ =>
    ⟨I2.kIn, wpAny_call (run_fnR (us := .ref a :: us) (vs := .ref a :: vs) F hr pass0 I2 (.cons rfl r) q2)⟩) hst hpl
theorem pe_ma0 {SP : Addr → Sp} {Good : Addr → Prop} {pl : Sem Bool} (he : PE X o ta) (M : MethAny X m k SP Good) (hr : Room k X.A)
    (ht : eval (.Call (.Attribute o m apos) [] [] pos) X.env = (do
      let ov ← eval o X.env
      standAt apos.atName
      let (f, first) ← holding [ov] (getMethod ov m pl)
      callWith pos f first (backTo pos (starEach [] X.env)) (backToKw pos (keywordEach [] X.env))) := by rfl) :
    PE X (.Call (.Attribute o m apos) [] [] pos) (tMA Good m SP ta tNil) := by
  refine ⟨fun pins s σ H Q I h => ?_⟩
  refine PySem.W.methodCall_KW (pl := pl) (thn (he.run pins s σ H _ I h) fun u s1 ⟨x, H1, I1, rx, a, C, dx, fs, ex, ea, g, l, q⟩ => ?_) ht
  subst ex
  obtain rfl : u = Value.ref a := rx
  obtain ⟨c, f, hm, F⟩ := M C g
  refine getmeth_ok I1 ea c hm l ?_
  exact PySem.W.callWith_K0 (first := [.ref a]) I1.kIn hm.kp (wpAny_call (run_fnR (us := [.ref a]) (vs := [.ref a]) F hr pass0 I1 (.cons rfl .nil) q))
/-- o.m( *e), the class told by the reading -/
def MethAnyB (X : Cx) (m : Str) (k : Nat) (SP : Addr → Sp) (Good : Addr → Prop) : Prop :=
  ∀ C, Good C → Cls X.K C ∧ ∃ f, BMeth X.K C m f ∧ FnR X.prog X.w X.K X.mg X.base CX0 k f (SP C)
def tMAS (K : PySem.W.Frag) (Good : Addr → Prop) (m : Str) (SP : Addr → Sp) (ta te : TE) : TE := fun σ H Q => ta σ H fun x H1 => ∃ a C dx fs, x = .ref a ∧ H1 a = some (.ins C dx fs) ∧ Good C ∧ fs.lookup m = none ∧
  ∀ q g, H1 q = none → te σ (upd H1 q (.met g a)) fun y H2 => ∃ b vs, y = .ref b ∧ (SqT K H2 b vs ∨ SqL K H2 b vs) ∧ H2 q = some (.met g a) ∧ SP C (.ref a :: vs) H2 Q E0
theorem pe_mas {SP : Addr → Sp} {Good : Addr → Prop} (he : PE X o ta) (M : MethAnyB X m k SP Good) (hr : Room k X.A) (ha : PE X e te) (hbase : attributeBase o m X.env (eval o X.env) = eval o X.env := by rfl) :
    PE X (.Call (.Attribute o m apos) [.Starred e p] [] pos) (tMAS X.K Good m SP ta te) := by
  refine ⟨fun pins s σ H Q I h => ?_⟩
  refine starcall_of hbase (thn (he.run pins s σ H _ I h) fun u s1 ⟨x, H1, I1, rx, a, C, dx, fs, ex, ea, g, l, q⟩ => ?_)
  subst ex
  obtain rfl : u = Value.ref a := rx
  obtain ⟨c, f, hm, F⟩ := M C g
  refine getbound_ok I1 ea c hm l fun q1 s2 hq1 I2 => ?_
  refine PySem.W.ks_call (P := PySem.W.MethP X.K q1 f (.ref a)) rfl (PySem.W.keeps_M hm.fi) (PySem.W.ks_lone ?_)
  refine thn (ha.run pins s2 σ _ _ I2 (q q1 f hq1)) fun v s3 ⟨y, H2, I3, ry, b, vs, ey, hb, hmm, hsp⟩ => ?_
  subst ey
  obtain rfl : v = Value.ref b := ry
  refine StX.star_any I3 hb fun us s4 I4 rv => ⟨met_P I4 hmm, ?_⟩
  exact wpAny_call (PySem.W.method_call (met_P I4 hmm).1 (run_fnR (us := Value.ref a :: us) (vs := V.ref a :: vs) F hr pass0 I4 (.cons rfl rv) hsp))
/-- a property, the class told by the reading -/
structure PropR (K : PySem.W.Frag) (C : Addr) (f : Str) (p g : Addr) : Prop where
  at_ : PySem.W.findIn K (.ref C) f = some (some (.ref p))
  get : PySem.W.specialIn K (.ref p) "__get__" = some (some (.builtin "property.__get__"))
  tak : PySem.W.takesIn K (.ref p) = some true
  rec_ : ∃ rest, PySem.W.recIn K p "property" = some (.ref g :: rest)
def PropAny (X : Cx) (f : Str) (k : Nat) (SP : Addr → Sp) (Good : Addr → Prop) : Prop :=
  ∀ C, Good C → Cls X.K C ∧ ∃ p g, PropR X.K C f p g ∧ FnR X.prog X.w X.K X.mg X.base CX0 k g (SP C)
def tPA (Good : Addr → Prop) (SP : Addr → Sp) (ta : TE) : TE := fun σ H Q => ta σ H fun x H1 => ∃ a C dx fs, x = .ref a ∧ H1 a = some (.ins C dx fs) ∧ Good C ∧ SP C [.ref a] H1 Q E0
theorem pe_pa {f : Str} {SP : Addr → Sp} {Good : Addr → Prop} (he : PE X e te) (M : PropAny X f k SP Good) (hr : Room (k + 1) X.A) (hab : attributeBase e f X.env (eval e X.env) = eval e X.env := by rfl) : PE X (.Attribute e f pos) (tPA Good SP te) := by
  refine ⟨fun pins s σ H Q I h => ?_⟩
  refine attr_of hab (thn (he.run pins s σ H _ I h) fun u s1 ⟨x, H1, I1, rx, a, C, dx, fs, ex, ea, g, q⟩ => ?_)
  subst ex
  obtain rfl : u = Value.ref a := rx
  obtain ⟨c, pp, gg, hp, F⟩ := M C g
  obtain ⟨mA, O, _, _, _, _⟩ := ins_get I1.hok ea
  obtain ⟨od, J, _⟩ := O.look
  obtain ⟨rest, hrec⟩ := hp.rec_
  have I2 := I1.tok (s1.toks + 1)
  have hc : (PySem.W.clsIn X.K C).isSome = true := by
    obtain ⟨cd, hc, _⟩ := PySem.W.any_some c.hd
    rw [hc]
    rfl
  refine PySem.W.get_bind I1.kIn J (PySem.W.plainGet_of (c.get f)).1 (PySem.W.findObj_data hc hp.at_ hp.get hp.tak) (PySem.W.plainGet_of (c.get f)).2 (wpAny_call (PySem.W.prop_get (s := { s1 with toks := s1.toks + 1 }) I1.kIn hrec ?_))
  refine codeAny_mono (F X.A.in1 X.stack { s1 with toks := s1.toks + 1 } H1 [.ref a] [.ref a] Q E0 hr.in1 I2.env0.in1 (.cons rfl .nil) q) fun r s' hq => ?_
  cases r with
  | error er => exact False.elim hq
  | ok fl =>
    cases fl with
    | ret u =>
      obtain ⟨v, H', I3, rv, q3⟩ := I2.after hq
      show wpAny _ _ (handedOut u) _ _ _
      rw [PySem.W.handedOut_of (handed_of rv)]
      exact wpAny_pure ⟨v, H', I3, rv, q3⟩
    | next => exact False.elim hq
    | brk => exact False.elim hq
    | cont => exact False.elim hq
/-- C(e, ..) -/
def tMk (C : Addr) (sp : Sp) (t : TA) : TE := fun σ H Q => t σ H fun vs H1 => ∀ x dx, H1 x = none → H1 dx = none → dx ≠ x →
  sp (.ref x :: vs) (upd (upd H1 dx (.own x)) x (.ins C dx [])) (fun v H2 => v = .non ∧ Q (.ref x) H2) E0
theorem pe_mk (M : Mk X.K C f) (F : FnR X.prog X.w X.K X.mg X.base CX0 k f sp) (hr : Room (k + 1) X.A) (hg : Gl X x) (hm : X.mg x = some (.ref C)) (ha : PA X (e :: es) t) (hdb : (x == ("__debug__" : Str)) = false := by decide)
    (he : starEach (e :: es) X.env = (false, eval e X.env) :: starEach es X.env := by rfl) (hpl : (backTo pos (starEach es X.env)).any (·.1) = false := by rfl) : PE X (.Call (.Name x p) (e :: es) [] pos) (tMk C sp t) :=
  StX.pe_makeR M F hr hg hm pass0 ha hdb he hpl
theorem pe_mk0 (M : Mk X.K C f) (F : FnR X.prog X.w X.K X.mg X.base CX0 k f sp) (hr : Room (k + 1) X.A) (hg : Gl X x) (hm : X.mg x = some (.ref C)) (hdb : (x == ("__debug__" : Str)) = false := by decide) : PE X (.Call (.Name x p) [] [] pos) (tMk C sp tNil) := by
  refine ⟨fun pins s σ H Q I h => ?_⟩
  refine wpAny_Call_Name_kw (ld_glob I hg hm ?_ hdb)
  exact PySem.W.callWith_K0 I.kIn M.kp (StX.run_makeR (us := []) M F hr pass0 I .nil h)
/-- C( *e) -/
def tMkS (K : PySem.W.Frag) (C : Addr) (sp : Sp) (te : TE) : TE := fun σ H Q => te σ H fun y H1 => ∃ b vs, y = .ref b ∧ (SqT K H1 b vs ∨ SqL K H1 b vs) ∧ ∀ x dx, H1 x = none → H1 dx = none → dx ≠ x →
  sp (.ref x :: vs) (upd (upd H1 dx (.own x)) x (.ins C dx [])) (fun v H2 => v = .non ∧ Q (.ref x) H2) E0
theorem pe_mkS {sp_ : Pos} (M : Mk X.K C f) (F : FnR X.prog X.w X.K X.mg X.base CX0 k f sp) (hr : Room (k + 1) X.A) (hg : Gl X x) (hm : X.mg x = some (.ref C)) (he : PE X e te) (hd : (x == ("__debug__" : Str)) = false := by decide)
    (hst : starEach [.Starred e sp_] X.env = [(true, eval e X.env)] := by rfl) : PE X (.Call (.Name x p) [.Starred e sp_] [] pos) (tMkS X.K C sp te) := by
  refine ⟨fun pins s σ H Q I h => ?_⟩
  refine wpAny_Call_Name_kw (ld_glob I hg hm ?_ hd)
  refine PySem.W.callWith_S (h₀ := X.base) I.ok.mod.kin M.kp (thn (he.run pins s σ H _ I h) fun v s1 ⟨y, H1, I1, ry, b, vs, ey, hb, q⟩ => ?_) hst
  subst ey
  obtain rfl : v = Value.ref b := ry
  exact StX.star_any I1 hb fun us s2 I2 rv => ⟨I2.kIn, StX.run_makeR M F hr pass0 I2 rv q⟩
/-- C(e, .., *y) -/
theorem pe_mkS2 (M : Mk X.K C f) (F : FnR X.prog X.w X.K X.mg X.base CX0 k f sp) (hr : Room (k + 1) X.A) (hg : Gl X x) (hm : X.mg x = some (.ref C)) (ha : PA X (e :: es) t) (hd : (x == ("__debug__" : Str)) = false := by decide)
    (he : starEach (e :: es) X.env = (false, eval e X.env) :: starEach es X.env := by rfl) (hst : (backTo pos (starEach es X.env)).any (·.1) = true := by rfl) : PE X (.Call (.Name x p) (e :: es) [] pos) (tMk C sp t) := by
  refine ⟨fun pins s σ H Q I h => ?_⟩
  refine wpAny_Call_Name_kw (ld_glob I hg hm ?_ hd)
  exact PySem.W.callWith_S2 (h₀ := X.base) I.ok.mod.kin M.kp (thn (ha.run pos pins s σ H _ I h) fun us s1 ⟨vs, H1, I1, r, q⟩ => ⟨I1.kIn, StX.run_makeR M F hr pass0 I1 r q⟩) he hst
end
/-! ### own operators, own len -/
section
variable {X : Cx} {k : Nat}
theorem cmpback {pins : List (Addr × Obj)} {σ : L2.St} {Q : VK} {w : Value} {s : Shared} (h : EP X pins σ Q w s) : PySem.W.CmpBack (EP X pins σ Q) w s := by
  obtain ⟨v, H', I, r, q⟩ := id h
  cases v with
  | non => cases (show w = Value.none from r); exact h
  | bl b => cases (show w = Value.bool b from r); exact h
  | int i => obtain ⟨t, e⟩ := (show ∃ t, w = Value.int i t from r); cases e; exact h
  | str x => obtain ⟨t, e⟩ := (show ∃ t, w = Value.str x t from r); cases e; exact h
  | byt b => obtain ⟨t, e⟩ := (show ∃ t, w = Value.bytes b t from r); cases e; exact h
  | flt b => obtain ⟨t, e⟩ := (show ∃ t, w = Value.float b t from r); cases e; exact h
  | ref a => cases (show w = Value.ref a from r); exact h
  | ty n => cases (show w = Value.type n from r); exact h
def rInv (Good : Addr → Prop) (SP : Addr → Sp) : V → Hp → VK → Prop := fun x H Q => ∃ a C dx fs, x = .ref a ∧ H a = some (.ins C dx fs) ∧ Good C ∧ SP C [x] H Q E0
theorem un_own {SP : Addr → Sp} {Good : Addr → Prop} (M : MethAny X "__invert__" k SP Good) (hr : Room k X.A) : UnR X (unaryOp .Invert) (rInv Good SP) := by
  intro pins s σ H x u Q I rx h
  obtain ⟨a, C, dx, fs, rfl, ea, g, q⟩ := h
  obtain rfl : u = Value.ref a := rx
  obtain ⟨c, f, hm, F⟩ := M C g
  obtain ⟨mA, O, _, _, _, _⟩ := ins_get I.hok ea
  obtain ⟨od, J, _⟩ := O.look
  obtain ⟨m, hF⟩ := I.fr
  exact PySem.W.ksp_inv hF I.ok.mod.kin J hm.at_ hm.fn (wpAny_call (run_fnR (us := [.ref a]) (vs := [.ref a]) F hr pass0 I (.cons rfl .nil) q))
/-- len(x), x an own instance -/
def rLenOwn (Good : Addr → Prop) (SP : Addr → Sp) : List V → Hp → VK → Prop := fun xs H Q => ∃ a C dx fs, xs = [.ref a] ∧ H a = some (.ins C dx fs) ∧ Good C ∧ SP C [.ref a] H (fun v H2 => ∃ n : Nat, v = .int n ∧ n < 1000000 ∧ Q (.int n) H2) E0
theorem call_lenOwn {SP : Addr → Sp} {Good : Addr → Prop} (M : MethAny X "__len__" k SP Good) (hr : Room (k + 1) X.A) : CallR X (.builtin "len") (rLenOwn Good SP) := by
  intro pins s σ H xs us Q I r h
  obtain ⟨a, C, dx, fs, rfl, ea, g, q⟩ := h
  obtain ⟨u, rfl, ru⟩ := vals1 r
  obtain rfl : u = Value.ref a := ru
  obtain ⟨c, f, hm, F⟩ := M C g
  obtain ⟨mA, O, _, _, _, _⟩ := ins_get I.hok ea
  obtain ⟨od, J, _⟩ := O.look
  obtain ⟨m, hF⟩ := I.fr
  refine PySem.W.len_K hF I.ok.mod.kin J hm.at_ hm.fn (wpAny_call (codeAny_mono (F X.A.in1 X.stack s H [.ref a] [.ref a] _ E0 hr.in1 I.env0.in1 (.cons rfl .nil) q) fun r s' hq => ?_))
  cases r with
  | error er => exact False.elim hq
  | ok fl =>
    cases fl with
    | ret u =>
      obtain ⟨v, H', I3, rv, n, ev, hn, q3⟩ := I.after hq
      subst ev
      obtain ⟨t, rfl⟩ := rv
      exact ⟨⟨by omega, by omega⟩, .int n, H', I3.tok _, ⟨_, rfl⟩, q3⟩
    | next => exact False.elim hq
    | brk => exact False.elim hq
    | cont => exact False.elim hq
end
end Hs
set_option Elab.async false
set_option linter.all false
set_option maxRecDepth 100000
set_option maxHeartbeats 4000000
namespace PySem.W
open PySem PySem.Calls PyProof.Rows
section
variable {prog : Program} {w : World} {A : Around} {E : Value → Shared → Prop} {s : Shared} {K : Frag} {x C L f y B : Addr} {h₀ : Heap} {m : Str → Option Value} {ox oy : Obj} {od oe : Option Obj}
/-- a op b, both of own classes that have the same def for op (and none for the reflected one) -/
theorem hs_bin2 {op : Operator} {Q : Value → Shared → Prop} (F : Fr h₀ L s.heap m) (X₀ : K.In h₀) (I : InstAt s.heap x ox C od) (J : InstAt s.heap y oy B oe) (hc : selfFirst K C = true) (hcB : selfFirst K B = true)
    (hs : findIn K (.ref C) (PySem.dunder op.info.2) = some (some (.ref f))) (hf : isFn K (.ref f) = true) (hr : findIn K (.ref C) (dunderR op.info.2) = some none)
    (hsB : findIn K (.ref B) (PySem.dunder op.info.2) = some (some (.ref f))) (hrB : findIn K (.ref B) (dunderR op.info.2) = some none) (hsub : B ≠ C → subIn K (.ref B) (.ref C) = some false)
    (h : wpAny (model prog w) A (call (.ref f) [.ref x, .ref y]) (CmpBack Q) E s) : wpAny (model prog w) A (binaryOp op (.ref x) (.ref y)) Q E s := by
  have X := X₀.keeps F.keep
  by_cases e : B = C
  · subst e
    exact binop_K F X₀ I J.type hc hs hf h
  · obtain ⟨cd, rest, hcd, hm⟩ := ksp_first hc
    obtain ⟨cd', rest', hcd', hm'⟩ := ksp_first hcB
    have hsub := hsub e
    rcases hi : op.info with ⟨sym, nm'⟩
    rw [hi] at hs hr hsB hrB
    dsimp only at hs hr hsB hrB
    have one := ksp_try X I hs hf h
    obtain ⟨hh, g, d, tt, os⟩ := s
    have L1 : Looks (model prog w) hh (typeOf (.ref x)) (.ref C) := I.type
    have L2 : Looks (model prog w) hh (typeOf (.ref y)) (.ref B) := J.type
    have L3 : Looks (model prog w) hh (fillsNumberSlot (.ref C) nm') true := fills_K X hcd hm hs
    have L4 : Looks (model prog w) hh (fillsNumberSlot (.ref B) nm') true := fills_K X hcd' hm' hsB
    have L5 : Looks (model prog w) hh (isSubtype (.ref B) (.ref C)) false := looks_subIn X hsub
    have L6 : Looks (model prog w) hh (numberSlotInPython (.ref C) nm') true := ksp_inPy X hs hr (.inl rfl)
    have L7 : Looks (model prog w) hh (numberSlotInPython (.ref B) nm') true := ksp_inPy X hsB hrB (.inl rfl)
    have hne : (Value.ref C == Value.ref B) = false := Bool.eq_false_iff.mpr fun q => by
      have := beq_iff_eq.mp q
      injection this with q2
      exact e q2.symm
    simp only [binaryOp, hi]
    refine wpAny_holding (wpAny_bind ?_)
    unfold binaryOp1
    refine wpAny_bind (L1.at (wpAny_bind (L2.at (wpAny_bind (L3.at ?_)))))
    simp only [hne, Bool.false_eq_true, if_false]
    ksp_lk
    refine wpAny_mono one (fun r s' hr' => ?_) fun _ _ e => e
    obtain ⟨v, rfl, hq⟩ := hr'
    ksp_lk
    exact hq
end
end PySem.W
namespace Hs
open PySem PySem.Spec PyProof.Rows L2
/-- what two classes must have that x op y, their instances, is the call of x's def -/
structure BinC (K : PySem.W.Frag) (op : Operator) (C B f : Addr) : Prop where
  c : PySem.W.selfFirst K C = true
  b : PySem.W.selfFirst K B = true
  s : PySem.W.findIn K (.ref C) (PySem.dunder op.info.2) = some (some (.ref f))
  fn : PySem.W.isFn K (.ref f) = true
  r : PySem.W.findIn K (.ref C) (dunderR op.info.2) = some none
  sB : PySem.W.findIn K (.ref B) (PySem.dunder op.info.2) = some (some (.ref f))
  rB : PySem.W.findIn K (.ref B) (dunderR op.info.2) = some none
  sub : B ≠ C → PySem.W.subIn K (.ref B) (.ref C) = some false
section
variable {X : Cx} {k : Nat}
def rBin (Good : Addr → Addr → Prop) (SP : Addr → Sp) : R2 := fun x y H Q => ∃ a C dx fs b B dy gs, x = .ref a ∧ y = .ref b ∧ H a = some (.ins C dx fs) ∧ H b = some (.ins B dy gs) ∧ Good C B ∧ SP C [x, y] H Q E0
theorem op_own2 {op : Operator} {SP : Addr → Sp} {Good : Addr → Addr → Prop} (M : ∀ C B, Good C B → ∃ f, BinC X.K op C B f ∧ FnR X.prog X.w X.K X.mg X.base CX0 k f (SP C)) (hr : Room k X.A) : OpR X (binaryOp op) (rBin Good SP) := by
  intro pins s σ H x y v u Q I rx ry h
  obtain ⟨a, C, dx, fs, b, B, dy, gs, rfl, rfl, ea, eb, g, q⟩ := h
  obtain rfl : v = Value.ref a := rx
  obtain rfl : u = Value.ref b := ry
  obtain ⟨f, c, F⟩ := M C B g
  obtain ⟨mA, O, _, _, _, _⟩ := ins_get I.hok ea
  obtain ⟨od, J, _⟩ := O.look
  obtain ⟨mB, O', _, _, _, _⟩ := ins_get I.hok eb
  obtain ⟨oe, J', _⟩ := O'.look
  obtain ⟨m, hF⟩ := I.fr
  refine PySem.W.hs_bin2 hF I.ok.mod.kin J J' c.c c.b c.s c.fn c.r c.sB c.rB c.sub ?_
  exact wpAny_mono (wpAny_call (run_fnR (us := [.ref a, .ref b]) (vs := [.ref a, .ref b]) F hr pass0 I (.cons rfl (.cons rfl .nil)) q)) (fun w s' z => cmpback z) fun _ _ z => z
end
end Hs
set_option Elab.async false
set_option linter.all false
set_option maxRecDepth 100000
set_option maxHeartbeats 4000000
/-! super().__init__(..) as a statement of a def's own body; the defs that close over their class. -/
namespace Hs
open PySem PySem.Spec PyProof.Rows L2 NdefX
/-- a block at the foot of its own def -/
structure PSA (X : Cx) (b0 : List Stmt) (st : List Stmt) (t : TS) : Prop where
  run : ∀ (pins : List (Addr × Obj)) (s : Shared) (σ : L2.St) (H : Hp) (D : Ends), Inv X pins σ H s → t D σ H → _root_.PySem.wpAt (model X.prog X.w) X.A (.func b0 X.env) (execs st X.env) (SP X pins D) X.xe s
section
variable {X : Cx} {b0 rest : List Stmt} {st : Stmt} {t u : TS}
theorem psa_of {sts : List Stmt} (h : PSs X sts t) : PSA X b0 sts t := ⟨fun pins s σ H D I q => wpAt_of_wpAny (h.run pins s σ H D I q)⟩
theorem psa_at (h : ∀ (pins : List (Addr × Obj)) (s : Shared) (σ : L2.St) (H : Hp) (D : Ends), Inv X pins σ H s → t D σ H → _root_.PySem.wpAt (model X.prog X.w) X.A (.func b0 X.env) (exec st X.env) (SP X pins D) X.xe s)
    (hr : PSA X b0 rest u) : PSA X b0 (st :: rest) (tSeq t u) := by
  refine ⟨fun pins s σ H D I q => ?_⟩
  refine ks_wpAt_execs_cons (ks_wpAt_mono (h pins s σ H { D with nx := u D } I q) (fun f s1 q => ?_) fun _ _ z => z)
  cases f with
  | next =>
    obtain ⟨σ', H', I', q⟩ := q
    exact hr.run pins s1 σ' H' D I' q
  | ret v => exact q
  | brk => exact q
  | cont => exact q
theorem psa_cons (h : PS X st t) (hr : PSA X b0 rest u) : PSA X b0 (st :: rest) (tSeq t u) := psa_at (fun pins s σ H D I q => wpAt_of_wpAny (h.run pins s σ H D I q)) hr
end
/-- what a def that closes over its class at D has -/
structure SupM (K : PySem.W.Frag) (P : Program) (mg : Str → Option Value) (f c0 cc D : Addr) : Prop where
  fn : ∃ (oc : Value) (od : Option Addr) (fd : FuncData) (osl : Array (Option Value)) (ar : Arg), K.lookup f = some ⟨oc, od, .func fd, osl⟩ ∧ (fd.params.posonlyargs ++ fd.params.args).head? = some ar ∧ ar.arg = ("self" : Str)
  code : ∃ (oc : Value) (od : Option Addr) (vs : Array Value) (osl : Array (Option Value)) (file : Str) (tf : Tok), K.lookup c0 = some ⟨oc, od, .fields vs, osl⟩ ∧ vs[2]? = some (.str file tf) ∧ ((P.main.file : Str) == file) = true
  cell : ∃ (oc : Value) (od : Option Addr) (osl : Array (Option Value)), K.lookup cc = some ⟨oc, od, .cell (some (.ref D)), osl⟩
  cls : (PySem.W.clsIn K D).isSome = true
  sup : mg "super" = none
  top : (P.main.scope.names.lookup ("super" : Str)).isSome = false
/-- what an instance's class C must have there: the def of that name behind D is at g -/
structure SupC (K : PySem.W.Frag) (C D : Addr) (m : Str) (g : Addr) : Prop where
  mro : PySem.W.mroIn K C (.ref D) = some true
  at_ : PySem.W.ks_superIn K C D m = some (some (.ref g))
  ty : PySem.W.typeIn K (.ref g) = some (.type "function")
  any : PySem.W.nsIn K cStatics "thirdparty.any" = some none
  fi : PySem.W.fnIn K g = true
section
variable {X : Cx} {k : Nat} {f c0 cc D : Addr} {m : Str}
/-- super().m(e, ..) as a statement; i: the slot of self -/
def tSup (i : Nat) (D : Addr) (m : Str) (k : Nat) (X : Cx) (t : TA) : TS := fun De σ H => ∃ a C dx fs g SP, σ[i]? = some (some (.ref a)) ∧ H a = some (.ins C dx fs) ∧ SupC X.K C D m g ∧ FnR X.prog X.w X.K X.mg X.base CX0 k g SP ∧
  ∀ q, H q = none → t σ (upd H q (.met g a)) fun vs H2 => H2 q = some (.met g a) ∧ SP (.ref a :: vs) H2 (fun _ H3 => De.nx σ H3) E0
theorem psa_super {b0 rest : List Stmt} {u : TS} {i : Nat} {p0 p1 apos pos pos' : Pos} {e : Expr} {es : List Expr} {t : TA} {pl : Sem Bool} (M : SupM X.K X.prog X.mg f c0 cc D) (hf : X.env.func = some f) (hc : X.env.code = .ref c0) (hcc : X.env.cells.lookup ("__class__" : Str) = some cc)
    (hr : Room k X.A) (hN : X.N[i]? = some ("self" : Str)) (hat : (m == ("__class__" : Str)) = false)
    (hks : X.env.scope.names.lookup ("super" : Str) = some .globalImplicit) (hkc : X.env.scope.names.lookup ("__class__" : Str) = some .free) (hka : X.env.scope.names.lookup ("self" : Str) = some .local)
    (ha : PA X (e :: es) t) (hrest : PSA X b0 rest u)
    (hs : swapsWith (.Call (.Attribute (.Call (.Name "super" p0) [] [] p1) m apos) (e :: es) [] pos) none pos'.line X.env = pure false := by rfl)
    (he : eval (.Call (.Attribute (.Call (.Name "super" p0) [] [] p1) m apos) (e :: es) [] pos) X.env = (do
      let ov ← attributeBase (.Call (.Name "super" p0) [] [] p1) m X.env (eval (.Call (.Name "super" p0) [] [] p1) X.env)
      standAt apos.atName
      let (f, first) ← holding [ov] (getMethod ov m pl)
      callWith pos f first (backTo pos (starEach (e :: es) X.env)) []) := by rfl)
    (hst : starEach (e :: es) X.env = (false, eval e X.env) :: starEach es X.env := by rfl) (hpl : ((backTo pos (starEach (e :: es) X.env)).any (·.1) || ([] : List (Option Str × Sem Value)).any (·.1.isNone)) = false := by rfl) :
    PSA X b0 (.Expr (.Call (.Attribute (.Call (.Name "super" p0) [] [] p1) m apos) (e :: es) [] pos) pos' :: rest) (tSeq (tSup i D m k X t) u) := by
  refine psa_at (fun pins s σ H De I q => ?_) hrest
  obtain ⟨a, C, dx, fs, g, SPg, h0, ea, sc, F, q⟩ := q
  obtain ⟨⟨oc, od, fd, osl, ar, lf, har, hself⟩, ⟨oc1, od1, vs, osl1, file, tf, lc, hvs, hfile⟩, ⟨oc2, od2, osl2, lcc⟩, hcls, hsup, htop⟩ := M
  refine ks_wpAt_Expr_any ?_ I.quiet hs
  refine ks_wpAt_MethodCall (pl := pl) ?_ he
  obtain ⟨mA, O, _, _, _, _⟩ := ins_get I.hok ea
  obtain ⟨odj, J, _⟩ := O.look
  obtain ⟨cdD, hD⟩ := Option.isSome_iff_exists.mp hcls
  obtain ⟨oD, hD1, hD2⟩ : ∃ oD, s.heap.get? D = some oD ∧ oD.data = .cls cdD := by
    unfold PySem.W.clsIn at hD
    split at hD
    · rename_i c d cd' sl ho
      cases hD
      exact ⟨_, I.kIn _ _ ho, rfl⟩
    · cases hD
  refine ks_wpAt_super_base hks hkc hat hf (I.kIn _ _ lf) rfl har hc (I.kIn _ _ lc) rfl hvs hfile htop ?_
  obtain ⟨mb, hb1, hb2⟩ := I.mod.blt
  refine PySem.W.ks_loadName_global I.ok.kind hks (Calls.loadGlobal_builtin (by rw [I.ok.glob]; exact I.mod.glob.keeps I.bk) hsup (by rw [I.ok.blt]; exact hb1.keeps I.bk) ((hb2 _ (by decide)).trans (by decide +kernel)) ⟨rfl, ?_⟩)
  refine wpAny_loadName_free I.ok.kind hkc hcc ⟨_, I.kIn _ _ lcc, rfl⟩ ?_
  rw [hself]
  obtain ⟨mm, hn, hl⟩ := I.loc
  obtain ⟨us, rs, lks⟩ := hl i "self" (.ref a) hN h0 (.inl hka)
  cases (show us = Value.ref a from rs)
  have hm : mm "self" = some (.ref a) := by
    rcases lks with ⟨_, z⟩ | ⟨z, _⟩
    · exact z
    · have z : X.env.scope.names.lookup ("self" : Str) = some .cell ∨ X.env.scope.names.lookup ("self" : Str) = some .free := z
      rw [hka] at z
      rcases z with z | z <;> cases z
  refine wpAny_loadName_local I.ok.kind hka hn hm ?_
  refine ks_wpAny_isType_cls hD1 hD2 ⟨rfl, ?_⟩
  have hC : ∃ cd, PySem.W.clsIn X.K C = some cd := by
    cases hc : PySem.W.clsIn X.K C with
    | some cd => exact ⟨cd, rfl⟩
    | none =>
      have := sc.at_
      unfold PySem.W.ks_superIn at this
      rw [hc] at this
      cases this
  obtain ⟨cd, hcd⟩ := hC
  have hal := sc.at_
  unfold PySem.W.ks_superIn at hal
  rw [hcd] at hal
  have hal : PySem.W.alongIn X.K m ((cd.mro.dropWhile (· != .ref D)).drop 1) = some (some (.ref g)) := hal
  obtain ⟨og, hog, hogc⟩ : ∃ og, X.K.lookup g = some og ∧ og.cls = .type "function" := by
    have ht' : (X.K.lookup g).map (·.cls) = some (.type "function") := sc.ty
    cases z : X.K.lookup g with
    | none => rw [z] at ht'; cases ht'
    | some og => rw [z] at ht'; exact ⟨og, rfl, Option.some.inj ht'⟩
  have hxC : a ≠ C := PySem.W.ks_ne I.kIn J hcd
  obtain ⟨hh, gs, dr, tk, os⟩ := s
  refine ks_wpAny_call_super hD1 hD2 J.at_ J.cls (fun c e => ?_) (PySem.W.looks_mroIn I.kIn sc.mro) (fun h' e1 kp => ?_)
  · have := J.no
    unfold PySem.W.notCls at this
    rw [e] at this
    exact Bool.noConfusion this
  have I1 : Inv X pins σ H ⟨h', gs, dr, tk, os⟩ := Inv.kept (t' := tk) I kp
  refine ks_wpAny_getMethod_super e1 (PySem.W.looks_opaque I1.kIn sc.any) (l₀ := cd.mro) (fun A Q E s kk q => wpAny_bind ((PySem.W.looks_clsIn I1.kIn hcd) A _ E s kk (wpAny_pure q))) rfl I1.kIn hal (I1.kIn _ _ hog) hogc hxC hat ?_
  have hq0 : H h'.objs.size = none := I1.hok.fresh (Nat.le_refl _)
  have I2 : Inv X pins σ (upd H h'.objs.size (.met g a)) ⟨h'.push { cls := .type "method", data := .fields #[.ref g, .ref a] }, gs, dr, tk + 1, os⟩ :=
    Inv.laid (s := ⟨h', gs, dr, tk, os⟩) (t' := tk + 1) (a := h'.objs.size) (o := .met g a) I1 (fun b u z => Heap.get?_push_of_some _ z) (Nat.le_refl _) (Heap.get?_push_size _ rfl)
  have hrun := ha.run pos pins _ σ _ _ I2 (q _ hq0)
  show wpAny _ _ (callWith pos (.ref h'.objs.size) [] (backTo pos (starEach (e :: es) X.env)) []) _ _ _
  rw [hst] at hrun hpl ⊢
  refine callwith_met (X := X) (g := g) (a := a) hpl sc.fi (Calls.evalArgs_plain ?_)
  refine thn hrun fun us s2 ⟨vs2, H2, I3, r, hm2, hsp⟩ => ⟨met_P I3 hm2, ?_⟩
  refine wpAny_mono (wpAny_call (PySem.W.method_call (met_P I3 hm2).1 (run_fnR (us := Value.ref a :: us) (vs := V.ref a :: vs2) F hr pass0 I3 (.cons rfl r) hsp))) (fun w s' ⟨v, H3, I4, _, q4⟩ => ⟨σ, H3, I4, q4⟩) fun _ _ z => z
end
end Hs
set_option Elab.async false
set_option linter.all false
set_option maxRecDepth 100000
set_option maxHeartbeats 4000000
/-! Defs by their bodies: plain ones, those with a star, those that close over their class. -/
namespace Hs
open PySem PySem.Spec PyProof.Rows L2 NdefX
theorem PSA.nox {X : Cx} {b0 st : List Stmt} {t : TS} (h : PSA X.nox b0 st t) : PSA X b0 st t := ⟨fun pins s σ H D I hw =>
  ks_wpAt_mono (h.run pins s σ H D (I.wish _) hw) (fun _ _ q => q.unwish) fun _ _ z => False.elim z⟩
section
variable {P : Program} {w : World} {K : PySem.W.Frag} {mg : Str → Option Value} {base : Heap} {k : Nat} {f : Addr} {N ps : List Str} {sp : Sp}
/-- a def of the text as it stands: cl what it closes over -/
structure DefK (K : PySem.W.Frag) (name qual : Str) (st : Stmt) (cl : List (Str × Addr)) (f : Addr) : Prop where
  ex : ∃ (oc : Value) (od : Option Addr) (kV doc pm : Value) (an : Option Addr) (c0 : Addr) (ct : Value) (osl : Array (Option Value)),
    K.lookup f = some ⟨oc, od, .func (PySem.W.fnX name qual (defArgs st) (defBody st) (defScope st) cl .none kV doc pm an (.ref c0) ct), osl⟩ ∧ PySem.W.codeIn K (.ref c0) qual = true
  kp : PySem.W.keepIn K (.ref f) = true
/-- a plain def -/
theorem DefK.fn {name qual : Str} {st : Stmt} (F : DefK K name qual st [] f) (S : FnScope N ps (defScope st)) (hb : ∀ (kV doc pm : Value) (an : Option Addr) (cdv ct : Value) (us : List Value), us.length = ps.length →
      bindArgs (PySem.W.fnX name qual (defArgs st) (defBody st) (defScope st) [] .none kV doc pm an cdv ct) ⟨us, []⟩ = pure (ps.zip us)) (len : ∀ vs H Q E, sp vs H Q E → vs.length = ps.length)
    (hbody : ∀ (cdv : Value) (A : Around) (outer : List Env) (s : Shared) (H : Hp) (vs : List V) (Q : VK) (E : XK), Room k (A.deeper (envOfC qual (defScope st) s.heap.objs.size f cdv)) → sp vs H Q E →
      ∃ t, PSs (cxOf CX0 P w K mg base N qual (defScope st) f cdv A outer s H E).nox (defBody st) t ∧ t { nx := fun _ H' => Q .non H', rt := Q } (start N vs) H) : FnR P w K mg base CX0 (k + 1) f sp := by
  obtain ⟨oc, od, kV, doc, pm, an, c0, ct, osl, lk, hcd⟩ := F.ex
  have G : FnOk P w K mg base CX0 (k + 1) f (PySem.W.fnOf name qual (defArgs st) (defBody st) (defScope st) .none kV doc pm an (.ref c0) ct) ps sp := fn_of lk hcd S len fun A outer s H vs Q E hr hsp => by
    obtain ⟨t, h, q⟩ := hbody (.ref c0) A outer s H vs Q E hr hsp
    exact ⟨t, h.nox, q⟩
  exact (G.raw (Binds.all fun us hl => hb kV doc pm an (.ref c0) ct us hl) .nil).imp fun vs H Q E q => by rw [List.append_nil]; exact q
/-- a def with a star parameter -/
theorem DefK.fnStar {name qual pv : Str} {st : Stmt} (F : DefK K name qual st [] f) (S : FnScope N (ps ++ [pv]) (defScope st)) (hb : ∀ (kV doc pm : Value) (an : Option Addr) (cdv ct : Value) (us rest : List Value), us.length = ps.length →
      bindArgs (PySem.W.fnX name qual (defArgs st) (defBody st) (defScope st) [] .none kV doc pm an cdv ct) ⟨us ++ rest, []⟩ = (newTuple rest >>= fun t => pure (ps.zip us ++ [(pv, t)])))
    (hbody : ∀ (cdv : Value) (A : Around) (outer : List Env) (s : Shared) (H : Hp) (vs : List V) (Q : VK) (E : XK), Room k (A.deeper (envOfC qual (defScope st) s.heap.objs.size f cdv)) → sp vs H Q E →
      ∃ t, PSs (cxOf CX0 P w K mg base N qual (defScope st) f cdv A outer s H E).nox (defBody st) t ∧ t { nx := fun _ H' => Q .non H', rt := Q } (start N vs) H) :
    FnR P w K mg base CX0 (k + 1) f (fun vs H Q E => ∃ ws rest, vs = ws ++ rest ∧ ws.length = ps.length ∧ rest.length ≤ sizeLine ∧ ∀ p, H p = Option.none → sp (ws ++ [V.ref p]) (upd H p (.tup rest)) Q E) := by
  obtain ⟨oc, od, kV, doc, pm, an, c0, ct, osl, lk, hcd⟩ := F.ex
  exact StX.fn_star lk hcd S StX.cxUp_none (fun us rest hl => hb kV doc pm an (.ref c0) ct us rest hl) fun A outer s H vs Q E hr hsp => by
    obtain ⟨t, h, q⟩ := hbody (.ref c0) A outer s H vs Q E hr hsp
    exact ⟨t, h.nox, q⟩
/-- a def that closes over its class: the body's run behind the binding -/
theorem run_sup {name qual : Str} {params : Arguments} {body : List Stmt} {scope : Scope} {cc c0 : Addr} {oc kV doc pm ct : Value} {od an : Option Addr} {osl : Array (Option Value)} {A : Around} {outer : List Env} {s : Shared} {H : Hp} {args : Args} {Q : VK} {E : XK} {G : List V → Hp → Prop}
    (lk : K.lookup f = some ⟨oc, od, .func (PySem.W.fnX name qual params body scope [("__class__", cc)] .none kV doc pm an (.ref c0) ct), osl⟩) (hcd : PySem.W.codeIn K (.ref c0) qual = true) (S : NScope N ps ["__class__"] scope) (cell : ∃ o v, K.lookup cc = some o ∧ o.data = .cell v)
    (hr : Room (k + 1) A) (e0 : Env0 P w K mg base A outer s H) (hb : StX.Bnd CX0 P w K mg base (PySem.W.fnX name qual params body scope [("__class__", cc)] .none kV doc pm an (.ref c0) ct) args ps A outer s H E G)
    (hbody : ∀ (s2 : Shared) (H2 : Hp) (vs : List V), G vs H2 → Room k (A.deeper (envF ⟨name, qual, params, body, scope, [("__class__", cc)], c0⟩ f s2.heap.objs.size)) →
      ∃ t, PSA (ncx CX0 P w K mg base N ⟨name, qual, params, body, scope, [("__class__", cc)], c0⟩ f A outer s2 H2 E).nox body body t ∧ t { nx := fun _ H' => Q .non H', rt := Q } (startF N vs [none]) H2) :
    codeAny (model P w) A (.call (.ref f) args) (CR CX0 outer P w H s Q E) s := by
  have KX : K.In s.heap := e0.mod.kin.keeps fun b o e => (e0.bs b o e).1
  refine codeAny_call_function hr.depth (KX _ _ lk) rfl S.co S.gen rfl (PySem.W.codeRec_of KX hcd) ?_
  refine hb _ _ _ fun s2 H2 vs us e2 un ho hx r hl g => ?_
  have KX2 : K.In s2.heap := e2.mod.kin.keeps fun b o e => (e2.bs b o e).1
  have lim : s2.heap.NoLimit := e2.mod.nolimit.keeps fun b o e => (e2.bs b o e).1
  refine wpAny_newFunctionEnv (s := s2) S.nocell (fun ⟨n, _⟩ hy => S.par n (List.of_mem_zip hy).1) (fun h₁ hns hsb => ⟨lim.fresh _ hsb, ?_⟩) S.kind
  have kp : ∀ b o, s2.heap.get? b = some o → h₁.get? b = some o := fun b o e => hsb.extBut b o (Nat.ne_of_lt (Heap.lt_size e)) (Heap.get?_push_of_some _ e)
  obtain ⟨t, ht, hq⟩ := hbody s2 H2 vs g (hr.deeper _)
  obtain ⟨oC, vC, hoC, hdC⟩ := cell
  have Cl : CellsAt [("__class__", cc)] ["__class__"] [none] s2.heap H2 := by
    refine ⟨rfl, fun y c e => ?_, fun x y c h1 h2 => ?_, fun i y e => ?_⟩
    · have ec : c = cc := by
        rw [List.lookup_cons] at e
        split at e
        · exact (Option.some.inj e).symm
        · cases e
      subst ec
      exact ⟨(e2.bs _ _ (e2.mod.kin _ _ hoC)).2, vC, oC, KX2 _ _ hoC, hdC⟩
    · have one : ∀ {z : Str}, [(("__class__" : Str), cc)].lookup z = some c → z = "__class__" := fun {z} e => by
        rw [List.lookup_cons] at e
        split at e
        · rename_i q; exact beq_iff_eq.mp q
        · cases e
      rw [one h1, one h2]
    · cases i with
      | zero =>
        have : y = "__class__" := (Option.some.inj e).symm
        subst this
        exact ⟨cc, rfl, fun v e => by cases e⟩
      | succ i => cases e
  refine ks_codeAny_funcAt ?_
  have I : Inv (ncx CX0 P w K mg base N ⟨name, qual, params, body, scope, [("__class__", cc)], c0⟩ f A outer s2 H2 E) [] (startF N vs [none]) H2 { s2 with heap := h₁, toks := s2.toks + (ps.zip us).length } :=
    inv_startN S hr.hd e2 hl r Cl hns kp
  refine ks_wpAt_mono (ht.nox.run [] _ (startF N vs [none]) H2 _ I hq) (fun fl s' hs => ?_) fun e s' hs => wpAny_mono hs (fun _ s'' z => hx e s'' z) fun e' s'' z => hx e' s'' z
  have fin : ∀ {σ' : L2.St} {H' : Hp} {v : V} {u : Value}, Inv (ncx CX0 P w K mg base N ⟨name, qual, params, body, scope, [("__class__", cc)], c0⟩ f A outer s2 H2 E) [] σ' H' s' → L2.RelV v u → Q v H' → CE outer P w H s Q u s' :=
    fun {σ' H' v u} J rv q => ⟨v, H', J.os.trans ho, J.bare, un.trans J.base, J.hok, rv, q⟩
  cases fl with
  | ret u =>
    obtain ⟨v, σ', H', J, rv, q⟩ := hs
    exact fin J rv q
  | next =>
    obtain ⟨σ', H', J, q⟩ := hs
    exact fin (v := V.non) (u := Value.none) J rfl q
  | brk =>
    obtain ⟨_, _, _, q⟩ := hs
    exact False.elim q
  | cont =>
    obtain ⟨_, _, _, q⟩ := hs
    exact False.elim q
/-- .. with plain parameters -/
theorem DefK.fnSup {name qual : Str} {st : Stmt} {cc : Addr} (F : DefK K name qual st [("__class__", cc)] f) (S : NScope N ps ["__class__"] (defScope st)) (cell : ∃ o v, K.lookup cc = some o ∧ o.data = .cell v)
    (hb : ∀ (kV doc pm : Value) (an : Option Addr) (cdv ct : Value) (us : List Value), us.length = ps.length → bindArgs (PySem.W.fnX name qual (defArgs st) (defBody st) (defScope st) [("__class__", cc)] .none kV doc pm an cdv ct) ⟨us, []⟩ = pure (ps.zip us))
    (len : ∀ vs H Q E, sp vs H Q E → vs.length = ps.length)
    (hbody : ∀ (c0 : Addr) (A : Around) (outer : List Env) (s : Shared) (H : Hp) (vs : List V) (Q : VK) (E : XK), (∃ (oc : Value) (od : Option Addr) (fd : FuncData) (osl : Array (Option Value)), K.lookup f = some ⟨oc, od, .func fd, osl⟩ ∧ fd.params = defArgs st ∧ fd.code = .ref c0) →
      Room k (A.deeper (envF ⟨name, qual, defArgs st, defBody st, defScope st, [("__class__", cc)], c0⟩ f s.heap.objs.size)) → sp vs H Q E →
      ∃ t, PSA (ncx CX0 P w K mg base N ⟨name, qual, defArgs st, defBody st, defScope st, [("__class__", cc)], c0⟩ f A outer s H E).nox (defBody st) (defBody st) t ∧ t { nx := fun _ H' => Q .non H', rt := Q } (startF N vs [none]) H) :
    FnR P w K mg base CX0 (k + 1) f sp := by
  obtain ⟨oc, od, kV, doc, pm, an, c0, ct, osl, lk, hcd⟩ := F.ex
  intro A outer s H us vs Q E hr e0 r hsp
  have hl := len _ _ _ _ hsp
  refine run_sup lk hcd S cell hr e0 (G := fun xs H2 => xs = vs ∧ H2 = H) (fun A' Ex Q' h => ?_) fun s2 H2 xs ⟨ex, eH⟩ hr' => ?_
  · rw [hb kV doc pm an (.ref c0) ct us (by rw [← r.length]; exact hl)]
    exact wpAny_pure (h s H vs us e0 Un.refl rfl (fun _ _ z => z) r hl ⟨rfl, rfl⟩)
  · subst ex eH
    exact hbody c0 A outer s2 _ _ Q E ⟨oc, od, _, osl, lk, rfl, rfl⟩ hr' hsp
/-- .. with a star parameter -/
theorem DefK.fnSupStar {name qual pv : Str} {st : Stmt} {cc : Addr} (F : DefK K name qual st [("__class__", cc)] f) (S : NScope N (ps ++ [pv]) ["__class__"] (defScope st)) (cell : ∃ o v, K.lookup cc = some o ∧ o.data = .cell v)
    (hb : ∀ (kV doc pm : Value) (an : Option Addr) (cdv ct : Value) (us rest : List Value), us.length = ps.length → bindArgs (PySem.W.fnX name qual (defArgs st) (defBody st) (defScope st) [("__class__", cc)] .none kV doc pm an cdv ct) ⟨us ++ rest, []⟩ = (newTuple rest >>= fun t => pure (ps.zip us ++ [(pv, t)])))
    (hbody : ∀ (c0 : Addr) (A : Around) (outer : List Env) (s : Shared) (H : Hp) (vs : List V) (Q : VK) (E : XK), (∃ (oc : Value) (od : Option Addr) (fd : FuncData) (osl : Array (Option Value)), K.lookup f = some ⟨oc, od, .func fd, osl⟩ ∧ fd.params = defArgs st ∧ fd.code = .ref c0) →
      Room k (A.deeper (envF ⟨name, qual, defArgs st, defBody st, defScope st, [("__class__", cc)], c0⟩ f s.heap.objs.size)) → sp vs H Q E →
      ∃ t, PSA (ncx CX0 P w K mg base N ⟨name, qual, defArgs st, defBody st, defScope st, [("__class__", cc)], c0⟩ f A outer s H E).nox (defBody st) (defBody st) t ∧ t { nx := fun _ H' => Q .non H', rt := Q } (startF N vs [none]) H) :
    FnR P w K mg base CX0 (k + 1) f (fun vs H Q E => ∃ ws rest, vs = ws ++ rest ∧ ws.length = ps.length ∧ rest.length ≤ sizeLine ∧ ∀ p, H p = Option.none → sp (ws ++ [V.ref p]) (upd H p (.tup rest)) Q E) := by
  obtain ⟨oc, od, kV, doc, pm, an, c0, ct, osl, lk, hcd⟩ := F.ex
  intro A outer s H us vs Q E hr e0 r hsp
  obtain ⟨ws, rest, ev, hl, hz, hq⟩ := hsp
  subst ev
  obtain ⟨u1, u2, eu, r1, r2⟩ := StX.vals_split r
  subst eu
  have hn : H s.heap.objs.size = Option.none := e0.hok.fresh (Nat.le_refl _)
  have hl1 : u1.length = ps.length := by rw [← r1.length]; exact hl
  have hl2 : u2.length ≤ sizeLine := by rw [← r2.length]; exact hz
  refine run_sup lk hcd S cell hr e0 (G := fun xs H2 => ∃ p, H p = Option.none ∧ xs = ws ++ [V.ref p] ∧ H2 = upd H p (.tup rest)) (fun A' Ex Q' h => ?_) fun s2 H2 xs ⟨p, hp, ex, eH⟩ hr' => ?_
  · rw [hb kV doc pm an (.ref c0) ct u1 u2 hl1]
    refine wpAny_bind (wpAny_newTuple (wpAny_pure ?_) hl2)
    have new : ObjOk P w (upd H s.heap.objs.size (.tup rest)) (s.heap.push ({ cls := .type "tuple", data := .seq u2.toArray } : Obj)) s.heap.objs.size (.tup rest) := ⟨hz, u2, r2, ⟨_, Heap.get?_push_size _ rfl, rfl, _, rfl⟩⟩
    have un := StX.un_laid (fs := frs outer) (s := s) (o := ({ cls := .type "tuple", data := .seq u2.toArray } : Obj)) (u := .tup rest) hn
    have z := h _ _ (ws ++ [V.ref s.heap.objs.size]) (u1 ++ [Value.ref s.heap.objs.size]) (StX.env0_laid e0 new) un rfl (fun e s' z => z) (r1.append (.cons rfl .nil)) (by rw [List.length_append, List.length_append, hl] <;> rfl) ⟨_, hn, rfl, rfl⟩
    rw [List.zip_append hl1.symm] at z
    exact z
  · subst ex eH
    exact hbody c0 A outer s2 _ _ Q E ⟨oc, od, _, osl, lk, rfl, rfl⟩ hr' (hq p hp)
end
end Hs
set_option Elab.async false
set_option linter.all false
set_option maxRecDepth 100000
set_option maxHeartbeats 4000000
/-! Dicts whose keys are tuples of None, ints and texts: the exact object stands in the abstract heap. -/
namespace Hs
open PySem PySem.Spec PyProof.Rows L2
abbrev Ent := List Leaf × Addr × V
def lV : Leaf → V
  | .none => .non
  | .num i => .int i
  | .text x => .str x
def tat (xs : List Ent) (k : List Leaf) : Option V := (xs.find? fun x => decide (x.1 = k)).map (·.2.2)
def tst (xs : List Ent) (k : List Leaf) (a : Addr) (v : V) : List Ent :=
  if (tat xs k).isSome then xs.map (fun x => if x.1 = k then (x.1, x.2.1, v) else x) else xs ++ [(k, a, v)]
abbrev KR : List Ent → List (List Leaf × Addr × Value) → Prop := Paired fun p q => p.1 = q.1 ∧ p.2.1 = q.2.1 ∧ RelV p.2.2 q.2.2
theorem KR.at {xs : List Ent} {ys : List (List Leaf × Addr × Value)} (r : KR xs ys) (k : List Leaf) : RelO (tat xs k) ((atKey ys k).map (·.2)) := by
  induction r with
  | nil => exact trivial
  | @cons p q ps qs h t ih =>
    unfold tat atKey at ih ⊢
    by_cases e : p.1 = k
    · have e2 : q.1 = k := h.1.symm.trans e
      rw [List.find?_cons_of_pos (by simp [e]), List.find?_cons_of_pos (by simp [e2])]
      exact h.2.2
    · have e2 : ¬ q.1 = k := fun z => e (h.1.trans z)
      rw [List.find?_cons_of_neg (by simp [e]), List.find?_cons_of_neg (by simp [e2])]
      exact ih
theorem KR.app {xs xs' : List Ent} {ys ys' : List (List Leaf × Addr × Value)} (r : KR xs ys) (r' : KR xs' ys') : KR (xs ++ xs') (ys ++ ys') := by
  induction r with
  | nil => exact r'
  | cons h t ih => exact .cons h ih
theorem KR.rep {xs : List Ent} {ys : List (List Leaf × Addr × Value)} (r : KR xs ys) (k : List Leaf) {v : V} {u : Value} (rv : RelV v u) : KR (xs.map fun x => if x.1 = k then (x.1, x.2.1, v) else x) (ys.map (putAt k u)) := by
  induction r with
  | nil => exact .nil
  | @cons p q ps qs h t ih =>
    rw [List.map_cons, List.map_cons]
    refine .cons ?_ ih
    unfold putAt
    by_cases e : p.1 = k
    · have e2 : q.1 = k := h.1.symm.trans e
      rw [if_pos e, if_pos e2]
      exact ⟨h.1, h.2.1, rv⟩
    · have e2 : ¬ q.1 = k := fun z => e (h.1.trans z)
      rw [if_neg e, if_neg e2]
      exact h
theorem KR.put {xs : List Ent} {ys : List (List Leaf × Addr × Value)} (r : KR xs ys) (k : List Leaf) (a : Addr) {v : V} {u : Value} (rv : RelV v u) : KR (tst xs k a v) (storedH ys k a u) := by
  have e := (r.at k).isSome_eq
  rw [Option.isSome_map] at e
  unfold tst storedH
  rw [e]
  split
  · exact r.rep k rv
  · exact r.app (.cons ⟨rfl, rfl, rv⟩ .nil)
theorem KR.get {xs : List Ent} {ys : List (List Leaf × Addr × Value)} (r : KR xs ys) {i : Nat} {x : Ent} (h : xs[i]? = some x) : ∃ y, ys[i]? = some y ∧ x.1 = y.1 ∧ x.2.1 = y.2.1 ∧ RelV x.2.2 y.2.2 := paired_get r h
theorem KR.keys {xs : List Ent} {ys : List (List Leaf × Addr × Value)} (r : KR xs ys) : ys.map (·.1) = xs.map (·.1) := by
  induction r with
  | nil => rfl
  | cons h t ih => rw [List.map_cons, List.map_cons, ih, h.1]
theorem relO_some {v : V} {o : Option Value} (r : RelO (some v) o) : ∃ u, o = some u ∧ RelV v u := by
  cases o with
  | none => exact False.elim r
  | some u => exact ⟨u, rfl, r⟩
theorem relO_none {o : Option Value} (r : RelO none o) : o = none := by
  cases o with
  | none => rfl
  | some u => exact False.elim r
theorem tst_len (xs : List Ent) (k : List Leaf) (a : Addr) (v : V) : (tst xs k a v).length ≤ xs.length + 1 := by
  unfold tst
  split
  · rw [List.length_map]; omega
  · rw [List.length_append]; exact Nat.le_refl _
theorem tst_mem {xs : List Ent} {k : List Leaf} {a : Addr} {v : V} {x : Ent} (h : x ∈ tst xs k a v) : (x.1 = k ∧ x.2.1 = a) ∨ ∃ y, y ∈ xs ∧ y.1 = x.1 ∧ y.2.1 = x.2.1 := by
  unfold tst at h
  split at h
  · obtain ⟨y, hy, e⟩ := List.mem_map.mp h
    split at e
    · subst e; exact .inr ⟨y, hy, rfl, rfl⟩
    · subst e; exact .inr ⟨y, hy, rfl, rfl⟩
  · rcases List.mem_append.mp h with h | h
    · exact .inr ⟨x, h, rfl, rfl⟩
    · have e := List.mem_singleton.mp h
      subst e
      exact .inl ⟨rfl, rfl⟩
abbrev lkd (P : Program) (w : World) : HeapKind P w (List Leaf) := tupleKind (leafKind P w)
/-- the dict object itself -/
structure TDo (P : Program) (w : World) (d : Addr) (od : Obj) (xs : List Ent) : Prop where
  sys : (d == sysModules) = false
  ex : od.ExactDict
  len : xs.length ≤ sizeLine
  dt : ∃ (es : Array DictEntry) (ep : Nat) (ys : List (List Leaf × Addr × Value)), od.data = .dict es ep ∧ KR xs ys ∧ es.toList = ys.map (entryOfKey (lkd P w))
  nd : (xs.map (·.1)).Nodup
def exO (d : Addr) (od : Obj) : HO := .ext fun h => h.get? d = some od
structure TD (P : Program) (w : World) (H : Hp) (d : Addr) (xs : List Ent) : Prop where
  at_ : ∃ od, H d = some (exO d od) ∧ TDo P w d od xs
  key : ∀ x, x ∈ xs → H x.2.1 = some (.tup (x.1.map lV))
theorem exO_ok {P : Program} {w : World} {H : Hp} {h : Heap} {d : Addr} {od : Obj} (e : h.get? d = some od) : ObjOk P w H h d (exO d od) := ⟨e, ⟨_, e⟩, fun h1 h2 x k => k od x⟩
theorem leaf_is {P : Program} {w : World} {k : Leaf} {u : Value} (r : RelV (lV k) u) : (leafKind P w).is k u = true := by
  cases k with
  | none => cases (show u = Value.none from r); rfl
  | num i => obtain ⟨t, rfl⟩ := (show ∃ t, u = Value.int i t from r); exact PyProof.Rows.leaf_int i t
  | text x => obtain ⟨t, rfl⟩ := (show ∃ t, u = Value.str x t from r); exact PyProof.Rows.leaf_str x t
theorem rel_leaf {k : Leaf} : ∀ {v : V} {u : Value}, v = lV k → RelV v u → RelV (lV k) u := fun e r => e ▸ r
theorem leaf_all {P : Program} {w : World} : ∀ {ks : List Leaf} {us : List Value}, Vals (ks.map lV) us → ItemsAre (leafKind P w) ks us
  | [], _, .nil => .nil
  | k :: ks, _, .cons r t => .cons (leaf_is r) (leaf_all t)
theorem lkey {P : Program} {w : World} {H : Hp} {h : Heap} {a : Addr} {ks : List Leaf} (ok : HOk P w H h) (e : H a = some (.tup (ks.map lV))) : (lkd P w).is h ks a := by
  obtain ⟨_, its, r, o, h1, h2, n, h3⟩ := (show ObjOk P w H h a (.tup (ks.map lV)) from ok a _ e)
  exact ⟨o, its.toArray, n, h1, h2, h3, by simpa using leaf_all r⟩
theorem TD.of {P : Program} {w : World} {H : Hp} {h : Heap} {d : Addr} {xs : List Ent} (T : TD P w H d xs) (ok : HOk P w H h) : ∃ od, H d = some (exO d od) ∧ h.get? d = some od ∧ TDo P w d od xs ∧
    ∃ ys, KR xs ys ∧ h.DictOfH (lkd P w) d ys := by
  obtain ⟨⟨od, hd, t⟩, key⟩ := T
  have e : h.get? d = some od := (show ObjOk P w H h d (exO d od) from ok d _ hd).1
  obtain ⟨es, ep, ys, h3, r, h4⟩ := t.dt
  refine ⟨od, hd, e, t, ys, r, od, es, ep, e, t.ex, h3, h4, fun y hy => ?_, by rw [r.keys]; exact t.nd⟩
  obtain ⟨x, hx, e1, e2, _⟩ : ∃ x, x ∈ xs ∧ x.1 = y.1 ∧ x.2.1 = y.2.1 ∧ RelV x.2.2 y.2.2 := by
    clear h4 key t
    induction r with
    | nil => cases hy
    | cons h t ih =>
      rcases List.mem_cons.mp hy with rfl | hy
      · exact ⟨_, List.mem_cons_self .., h⟩
      · obtain ⟨x, hx, z⟩ := ih hy
        exact ⟨x, List.mem_cons_of_mem _ hx, z⟩
  rw [← e1, ← e2]
  exact lkey ok (key x hx)
/-- the object after a store -/
theorem TDo.of {P : Program} {w : World} {d : Addr} {h : Heap} {xs : List Ent} {ys : List (List Leaf × Addr × Value)} (sys : (d == sysModules) = false) (len : xs.length ≤ sizeLine) (r : KR xs ys) (m : h.DictOfH (lkd P w) d ys) : ∃ od, h.get? d = some od ∧ TDo P w d od xs := by
  obtain ⟨o, es, ep, e, hx, hd, he, _, n⟩ := m
  exact ⟨o, e, sys, hx, len, ⟨es, ep, ys, hd, r, he⟩, by rw [← r.keys]; exact n⟩
theorem TD.mono {P : Program} {w : World} {H H' : Hp} {d : Addr} {xs : List Ent} (T : TD P w H d xs) (e : ∀ a o, H a = some o → H' a = some o) : TD P w H' d xs :=
  ⟨let ⟨od, h, t⟩ := T.at_; ⟨od, e _ _ h, t⟩, fun x hx => e _ _ (T.key x hx)⟩
section
variable {X : Cx}
/-- {} -/
def tTNew (P : Program) (w : World) : TE := fun _ H Q => ∀ p, H p = none → ∀ H', (∀ b, b ≠ p → H' b = H b) → TD P w H' p [] → Q (.ref p) H'
theorem pe_tnew {j : List (Option Expr)} {pos : Pos} : PE X (.Dict [] [] pos) (tTNew X.prog X.w) := by
  refine ⟨fun pins s σ H Q I h => ?_⟩
  refine wpAny_Dict_empty ?_
  have e : (s.heap.push { cls := .type "dict", data := .dict #[] }).get? s.heap.objs.size = some { cls := .type "dict", data := .dict #[] } := Heap.get?_push_size _ rfl
  refine ⟨.ref s.heap.objs.size, upd H s.heap.objs.size (exO s.heap.objs.size _), I.laid (a := s.heap.objs.size) (t' := s.toks) (fun _ _ q => Heap.get?_push_of_some _ q) (Nat.le_refl _) (exO_ok e), rfl, ?_⟩
  refine h _ (I.hok.fresh (Nat.le_refl _)) _ (fun b hb => upd_ne hb) ⟨⟨_, upd_same, ?_⟩, fun x hx => by cases hx⟩
  have sm : (s.heap.objs.size == sysModules) = false := by
    have := I.big
    exact beq_eq_false_iff_ne.mpr (Nat.ne_of_gt this)
  exact ⟨sm, ⟨rfl, rfl, rfl⟩, Nat.zero_le _, ⟨#[], 0, [], rfl, .nil, rfl⟩, List.nodup_nil⟩
/-- d.get(k, x) -/
def rTGet (P : Program) (w : World) : V → List V → Hp → VK → Prop := fun x vs H Q => ∃ d b k z xs, x = .ref d ∧ vs = [.ref b, z] ∧ TD P w H d xs ∧ H b = some (.tup (k.map lV)) ∧ Q ((tat xs k).getD z) H
theorem mt_tget (hu : X.A.units + 2 < cLine) : MtR X "dict.get" (rTGet X.prog X.w) := by
  intro pins s σ H x xs v us Q I rx rxs h
  obtain ⟨d, b, k, z, ts, rfl, rfl, T, hb, q⟩ := h
  obtain rfl : v = Value.ref d := rx
  obtain ⟨u1, u2, rfl, r1, r2⟩ := vals2 rxs
  obtain rfl : u1 = Value.ref b := r1
  obtain ⟨od, hd, e, t, ys, r, m⟩ := T.of I.hok
  refine call_meetsIn PySem.F.slot_dict_get m.typeIs PySem.F.entry_dict_get (PySem.F.args_dict_get_3 _ _ _) (meetsH_dict_get_default (lkd X.prog X.w) d b t.sys u2) ⟨tupleKind_room_in1 (by have : X.A.in1.units = X.A.units + 1 := rfl; omega), k, ys, lkey I.hok hb, m, ?_⟩
  have ro := r.at k
  cases hk : tat ts k with
  | none =>
    rw [hk] at ro q
    have := relO_none ro
    rw [this]
    exact ⟨z, H, I.tok _, r2, q⟩
  | some y =>
    rw [hk] at ro q
    obtain ⟨u, hu1, ru⟩ := relO_some ro
    rw [hu1]
    exact ⟨y, H, I.tok _, ru, q⟩
/-- d[k] -/
def tTIx (P : Program) (w : World) (td ty : TE) : TE := fun σ H Q => td σ H fun x H1 => ty σ H1 fun y H2 => ∃ d b k xs v, x = .ref d ∧ y = .ref b ∧ TD P w H2 d xs ∧ H2 b = some (.tup (k.map lV)) ∧ tat xs k = some v ∧ Q v H2
theorem pe_tix {o i : Expr} {td ty : TE} {pos : Pos} (hu : X.A.units + 2 < cLine) (ho : PE X o td) (hi : PE X i ty) (hs : NoSl i) : PE X (.Subscript o i pos) (tTIx X.prog X.w td ty) := by
  refine ⟨fun pins s σ H Q I h => ?_⟩
  refine subD_of PySem.F.slot_dict_getitem.lookup hs (thn (ho.run pins s σ H _ I h) fun v s1 ⟨x, H1, I1, rx, q1⟩ => thn (hi.run pins s1 σ H1 _ I1 q1) fun u s2 ⟨y, H2, I2, ry, d, b, k, xs, z, ex, ey, T, hb, hk, q⟩ => ?_)
  subst ex ey
  obtain rfl : v = Value.ref d := rx
  obtain rfl : u = Value.ref b := ry
  obtain ⟨od, hd, e, t, ys, r, m⟩ := T.of I2.hok
  have ro := r.at k
  rw [hk] at ro
  obtain ⟨u, hu1, ru⟩ := relO_some ro
  obtain ⟨p, hp, hp2⟩ := Option.map_eq_some_iff.mp hu1
  refine ⟨m.typeIs, wpAny_getItem_heap (tupleKind_room_in1 (by omega)) (lkey I2.hok hb) m hp ?_⟩
  rw [hp2]
  exact ⟨z, H2, I2.tok _, ru, q⟩
/-- the heap in which the dict at d has become xs -/
def TDn (P : Program) (w : World) (H H' : Hp) (d : Addr) (xs : List Ent) : Prop := (∀ b, b ≠ d → H' b = H b) ∧ ∃ od, H' d = some (exO d od) ∧ TDo P w d od xs
theorem td_store {pins : List (Addr × Obj)} {σ : L2.St} {H : Hp} {s : Shared} {d b : Addr} {k : List Leaf} {xs : List Ent} {h' : Heap} {t' : Nat} {v : V} {u : Value} {ys : List (List Leaf × Addr × Value)} (I : Inv X pins σ H s) (T : TD X.prog X.w H d xs)
    (r : KR xs ys) (rv : RelV v u) (hl : xs.length < sizeLine) (m : h'.DictOfH (lkd X.prog X.w) d (storedH ys k b u)) (hs : Heap.SameBut d s.heap h') :
    ∃ od, Inv X pins σ (upd H d (exO d od)) { s with heap := h', toks := t' } ∧ TDn X.prog X.w H (upd H d (exO d od)) d (tst xs k b v) := by
  obtain ⟨⟨od, hd, t⟩, _⟩ := T
  have hl2 : (tst xs k b v).length ≤ sizeLine := Nat.le_trans (tst_len xs k b v) hl
  obtain ⟨od', e', t'⟩ := TDo.of t.sys hl2 (r.put k b rv) m
  exact ⟨od', I.write (x := d) (e := d) (by rw [hd]; exact True.intro) (.inl rfl) (fun c q hc z => (hs.2 c hc).trans z) ⟨_, e'⟩ (exO_ok e'), fun c hc => upd_ne hc, od', upd_same, t'⟩
/-- d[k] = v -/
def rTSet (P : Program) (w : World) : TSet := fun o i v H Q => ∃ d b k xs, o = .ref d ∧ i = .ref b ∧ TD P w H d xs ∧ H b = some (.tup (k.map lV)) ∧ xs.length < sizeLine ∧ ∀ H', TDn P w H H' d (tst xs k b v) → Q H'
theorem set_td (hu : X.A.units + 2 < cLine) : PSet X (rTSet X.prog X.w) := by
  intro pins s σ H o i v ov iv u Q I ro ri rv h
  obtain ⟨d, b, k, xs, rfl, rfl, T, hb, hl, q⟩ := h
  obtain rfl : ov = Value.ref d := ro
  obtain rfl : iv = Value.ref b := ri
  obtain ⟨od, hd, e, t, ys, r, m⟩ := T.of I.hok
  have hz : ys.length ≤ sizeLine := by have := Paired.length r; omega
  refine wpAny_setItem_heap (hsz := hz) (tupleKind_room_in1 (by omega)) (lkey I.hok hb) m fun h' m' hs => ?_
  obtain ⟨od', I', n⟩ := td_store (k := k) (t' := s.toks + (lkd X.prog X.w).draws k) I T r rv hl m' hs
  exact ⟨_, I', q _ n⟩
theorem TDn.td {P : Program} {w : World} {H H' : Hp} {d b : Addr} {k : List Leaf} {xs : List Ent} {v : V} (n : TDn P w H H' d (tst xs k b v)) (T : TD P w H d xs) (hb : H b = some (.tup (k.map lV))) : TD P w H' d (tst xs k b v) := by
  obtain ⟨n1, od, h1, t⟩ := n
  refine ⟨⟨od, h1, t⟩, fun x hx => ?_⟩
  obtain ⟨od0, hd, _⟩ := T.at_
  have ne : ∀ {c : Addr} {ys : List V}, H c = some (.tup ys) → c ≠ d := fun {c ys} e z => by
    rw [z, hd] at e
    exact nomatch e
  rcases tst_mem hx with ⟨e1, e2⟩ | ⟨y, hy, e1, e2⟩
  · rw [e1, e2, n1 b (ne hb)]
    exact hb
  · have z := T.key y hy
    rw [← e1, ← e2, n1 _ (ne z)]
    exact z
/-- len(d) -/
def rTLen (P : Program) (w : World) : List V → Hp → VK → Prop := fun vs H Q => ∃ d xs, vs = [.ref d] ∧ TD P w H d xs ∧ Q (.int ((xs.length : Nat) : Int)) H
theorem call_tlen : CallR X (.builtin "len") (rTLen X.prog X.w) := by
  intro pins s σ H xs us Q I r h
  obtain ⟨d, ts, rfl, T, q⟩ := h
  obtain ⟨u, rfl, ru⟩ := vals1 r
  obtain rfl : u = Value.ref d := ru
  obtain ⟨od, hd, e, t, ys, r, m⟩ := T.of I.hok
  have hl := Paired.length r
  have hz := t.len
  rw [sizeLine_eq] at hz
  refine call_len_dictH t.sys m (by omega) ?_
  exact ⟨.int ((ts.length : Nat) : Int), H, I.tok _, ⟨s.toks + 1, by rw [hl]⟩, q⟩
/-- list(d): the keys' own tuples -/
def rTList (P : Program) (w : World) : List V → Hp → VK → Prop := fun vs H Q => ∃ d xs, vs = [.ref d] ∧ TD P w H d xs ∧ ∀ p, H p = none → Q (.ref p) (upd H p (.lst (xs.map fun x => V.ref x.2.1)))
theorem call_tlist (hc : X.calm = true) : CallR X (.type "list") (rTList X.prog X.w) := by
  intro pins s σ H xs us Q I r h
  obtain ⟨d, ts, rfl, T, q⟩ := h
  obtain ⟨u, rfl, ru⟩ := vals1 r
  obtain rfl : u = Value.ref d := ru
  obtain ⟨od, hd, e, t, _⟩ := T.of I.hok
  obtain ⟨es, ep, ys, hdt, kr, he⟩ := t.dt
  have l1 : es.size = ys.length := size_of_entries he
  have l2 : ts.length = ys.length := Paired.length kr
  have hz := t.len
  refine PySem.W.kdl_call (kdl_raw t.sys t.ex hdt) (I.ok.hd hc) e (by omega) fun h' tk acc' c' kp e2 it => ?_
  have eb : acc'.toList = (ts.map fun x => x.2.1).map Value.ref := by
    apply List.ext_getElem?
    intro j
    rw [List.map_map, List.getElem?_map, Array.getElem?_toList]
    cases hj : acc'[j]? with
    | none =>
      have h1 := Array.getElem?_eq_none_iff.mp hj
      have h2 : acc'.size = es.size := it.1
      rw [List.getElem?_eq_none (by omega)]
      rfl
    | some v =>
      obtain ⟨en, hen, hv⟩ := it.2 j v hj
      have qe := entry_at he j
      rw [hen] at qe
      obtain ⟨y, hy, e3⟩ := Option.map_eq_some_iff.mp qe.symm
      have hlt : j < ts.length := by have := (List.getElem?_eq_some_iff.mp hy).1; omega
      obtain ⟨y', hy', _, e4, _⟩ := kr.get (List.getElem?_eq_getElem hlt)
      rw [hy] at hy'
      cases hy'
      rw [List.getElem?_eq_getElem hlt, hv, ← e3]
      show some (Value.ref y.2.1) = some (Value.ref _)
      exact congrArg (fun z => some (Value.ref z)) e4.symm
  have rv : Vals ((ts.map fun x => x.2.1).map V.ref) acc'.toList := by rw [eb]; exact vals_refs _
  rw [List.map_map] at rv
  refine ⟨.ref s.heap.objs.size, _, I.laid (t' := tk) (o := .lst (ts.map fun x => V.ref x.2.1)) kp (Nat.le_refl _) ?_, rfl, q _ (I.hok.fresh (Nat.le_refl _))⟩
  exact ⟨by rw [List.length_map]; exact hz, acc'.toList, c', rv, by rw [Array.toArray_toList]; exact e2⟩
/-! ### walks -/
def ItTk (d : Addr) (od : Obj) (xs : List Ent) : It :=
  ⟨fun i H => H d = some (exO d od) ∧ i < xs.length, fun i H x H' => H' = H ∧ ∃ e, xs[i]? = some e ∧ x = .ref e.2.1, fun i H => H d = some (exO d od) ∧ xs.length ≤ i⟩
theorem turn_tk {P : Program} {w : World} {K : PySem.W.Frag} {tg : Expr} {d : Addr} {od : Obj} {xs : List Ent} {es : Array DictEntry} {ep : Nat} {ys : List (List Leaf × Addr × Value)} (it : Addr) (hdt : od.data = .dict es ep) (kr : KR xs ys) (he : es.toList = ys.map (entryOfKey (lkd P w))) :
    Turn P w K tg (ItTk d od xs) [it] it (fun i h => h.IsKeyIter it d i xs.length ep) where
  mem := by simp
  obj := fun i h st b hb => by
    have e : b = it := by simpa using hb
    subst e
    obtain ⟨oi, e, c, dd⟩ := st
    exact ⟨oi, e, fun v z => by rw [dd] at z; cases z⟩
  keep := fun i h h' st k => st.at fun oi e => k it (by simp) oi e
  item := by
    intro X hP hw hK hc i pins s σ H E I hf st hg
    subst hP hw hK
    obtain ⟨hd, hi⟩ := hg
    obtain ⟨f0, f1, f2, f3, f4, f5⟩ := hf it (by simp)
    have hgd : s.heap.get? d = some od := (show ObjOk X.prog X.w H s.heap d (exO d od) from I.hok d _ hd).1
    have l1 : es.size = ys.length := size_of_entries he
    have l2 : xs.length = ys.length := Paired.length kr
    obtain ⟨y, hy, _, e4, _⟩ := kr.get (List.getElem?_eq_getElem hi)
    have qe := entry_at he i
    rw [hy] at qe
    refine next_key_item st hgd hdt (by omega) qe fun h' st' sb => ?_
    have I1 : Inv X pins σ H { s with heap := h' } := I.turned (t' := s.toks) (fun b ob hb e => (sb.2 b hb).trans e) f0 f1 f3 f4 f5
    obtain ⟨oi, e, c, dd⟩ := id st'
    exact ⟨_, rfl, go_of (s := { s with heap := h' }) e c dd (by decide) ⟨.ref xs[i].2.1, H, I1, (show Value.ref y.2.1 = Value.ref xs[i].2.1 by rw [e4]), ⟨rfl, _, List.getElem?_eq_getElem hi, rfl⟩, st', fun b hb => (hf b hb).1⟩⟩
  done := by
    intro X hP hw hK hc i pins s σ H E I hf st hg
    subst hP hw hK
    obtain ⟨hd, hi⟩ := hg
    obtain ⟨f0, f1, f2, f3, f4, f5⟩ := hf it (by simp)
    have hgd : s.heap.get? d = some od := (show ObjOk X.prog X.w H s.heap d (exO d od) from I.hok d _ hd).1
    have l1 : es.size = ys.length := size_of_entries he
    have l2 : xs.length = ys.length := Paired.length kr
    exact next_key_end (I.ok.hd hc) st hgd hdt (by omega) hi fun h' eb => ⟨rfl, I.turned (t' := s.toks) (fun b ob hb e => eb b ob hb e) f0 f1 f3 f4 f5⟩
  self := fun A i s Q E st h => by
    refine wpAny_pyIter_slot st.typeIs F.slot_dict_keyiterator_iter (wpAny_call_entry F.slot_dict_keyiterator_iter st.typeIs F.entry_dict_keyiterator_iter ?_ (F.args_dict_keyiterator_iter_1 _))
    show wpAny _ _ (ret (.ref it)) _ _ s
    exact wpAny_pure ⟨_, rfl, "dict_keyiterator", _, st.typeIs, F.slot_dict_keyiterator_next.lookup, h⟩
theorem walk_tk {d : Addr} {od : Obj} {xs : List Ent} : Walk (ItTk d od xs) xs.length (fun H => H d = some (exO d od)) (fun i H x H' => H' = H ∧ ∃ e, xs[i]? = some e ∧ x = .ref e.2.1) :=
  ⟨fun _ _ hi q => ⟨q, hi⟩, fun _ q => ⟨q, Nat.le_refl _⟩, fun _ _ _ _ _ _ y => y⟩
/-- for k in d -/
def iTk (P : Program) (w : World) (td : TE) : TI := fun σ H R => td σ H fun x H1 => ∃ d od xs, x = .ref d ∧ H1 d = some (exO d od) ∧ TDo P w d od xs ∧ R (ItTk d od xs) H1
theorem pi_tk {tg e : Expr} {td : TE} (he : PE X e td) : PI X tg e (iTk X.prog X.w td) := by
  refine ⟨fun pins s σ H R I h => ?_⟩
  refine thn (he.run pins s σ H _ I h) fun u s1 ⟨x, H1, I1, rx, d, od, xs, ex, hd, t, q⟩ => ?_
  subst ex
  obtain rfl : u = Value.ref d := rx
  have hgd : s1.heap.get? d = some od := (show ObjOk X.prog X.w H1 s1.heap d (exO d od) from I1.hok d _ hd).1
  obtain ⟨es, ep, ys, hdt, kr, hes⟩ := t.dt
  have l1 : es.size = ys.length := size_of_entries hes
  have l2 : xs.length = ys.length := Paired.length kr
  refine iter_keys t.sys hgd t.ex hdt (pi_one (tk := s1.toks) I1 _ (turn_tk _ hdt kr hes) ⟨_, Heap.get?_push_size _ rfl, rfl, ?_⟩ q)
  rw [l2, ← l1] <;> rfl
end
end Hs
set_option Elab.async false
set_option linter.all false
set_option maxRecDepth 100000
set_option maxHeartbeats 4000000
/-! Own containers whose __iter__ gives iter(d.items()): walked, listed. -/
namespace Hs
open PySem PySem.Spec PyProof.Rows L2
def Ex (H H' : Hp) : Prop := ∀ a o, H a = some o → H' a = some o
theorem Ex.refl (H : Hp) : Ex H H := fun _ _ h => h
theorem Ex.trans {H H1 H2 : Hp} (a : Ex H H1) (b : Ex H1 H2) : Ex H H2 := fun x o h => b x o (a x o h)
theorem Ex.new {H : Hp} {p : Addr} {o : HO} (h : H p = none) : Ex H (upd H p o) := fun a u e => by
  rw [upd_ne (ne_of_none e h)]
  exact e
theorem Ex.mut {H H' : Hp} {p : Addr} {o : HO} (e : Ex H H') (h : H p = none) : Ex H (upd H' p o) := fun a u ha => by
  rw [upd_ne (ne_of_none ha h)]
  exact e a u ha
theorem Ex.free {H H' : Hp} {p : Addr} (e : Ex H H') (h : H' p = none) : H p = none := by
  cases h1 : H p with
  | none => rfl
  | some o => rw [e p o h1] at h; cases h
theorem Ex.drop {H H' : Hp} {p : Addr} (e : Ex H H') (h : H p = none) : Ex H (ItX.dropH H' p) := fun a o ha => by
  rw [ItX.dropH_ne (ne_of_none ha h)]
  exact e a o ha
def viewObj (d : Addr) : Obj := { cls := .type "dict_items", data := .fields #[.ref d] }
def itemIt (d : Addr) (n ep : Nat) : Obj := { cls := .type "dict_itemiterator", data := .fields #[.none, .bool false, .ref d, .int 0 0, .int n 0, .int ep 0, .none, .none] }
section
variable {X : Cx}
def rTItems (P : Program) (w : World) : V → List V → Hp → VK → Prop := fun x vs H Q => ∃ d xs, x = .ref d ∧ vs = [] ∧ TD P w H d xs ∧ ∀ p, H p = none → Q (.ref p) (upd H p (exO p (viewObj d)))
theorem mt_titems : MtR X "dict.items" (rTItems X.prog X.w) := by
  intro pins s σ H x xs v us Q I rx rxs h
  obtain ⟨d, ts, rfl, rfl, T, q⟩ := h
  obtain rfl : v = Value.ref d := rx
  cases rxs
  obtain ⟨od, hd, e, t, _⟩ := T.of I.hok
  obtain ⟨es, ep, ys, hdt, kr, he⟩ := t.dt
  refine DT.callItems (es := es) (ep := ep) t.sys ⟨od, e, t.ex, hdt⟩ ?_
  exact ⟨.ref s.heap.objs.size, _, I.laid (t' := s.toks) (fun _ _ z => Heap.get?_push_of_some _ z) (Nat.le_refl _) (exO_ok (Heap.get?_push_size _ rfl)), rfl, q _ (I.hok.fresh (Nat.le_refl _))⟩
/-- iter(d.items()) -/
def rTIter (P : Program) (w : World) (n : Nat) : List V → Hp → VK → Prop := fun vs H Q => ∃ v d xs, vs = [.ref v] ∧ H v = some (exO v (viewObj d)) ∧ TD P w H d xs ∧
  ∀ it od es ep, H it = none → n ≤ it → H d = some (exO d od) → od.data = .dict es ep → Q (.ref it) (upd H it (exO it (itemIt d es.size ep)))
theorem call_titer : CallR X (.builtin "iter") (rTIter X.prog X.w X.s_0.heap.objs.size) := by
  intro pins s σ H xs us Q I r h
  obtain ⟨v, d, ts, rfl, hv, T, q⟩ := h
  obtain ⟨u, rfl, ru⟩ := vals1 r
  obtain rfl : u = Value.ref v := ru
  obtain ⟨od, hd, e, t, _⟩ := T.of I.hok
  obtain ⟨es, ep, ys, hdt, kr, he⟩ := t.dt
  have ev : s.heap.get? v = some (viewObj d) := (show ObjOk X.prog X.w H s.heap v (exO v (viewObj d)) from I.hok v _ hv).1
  refine Calls.call_function_entry (by decide +kernel) (by decide +kernel) PySem.W.kdk_entry_iter (PySem.W.kdk_args_iter _) ?_
  unfold Builtin.«iter»
  refine wpAny_bind (m := someArgs "iter" 1 2 _) (wpAny_of_eq (a := [Value.ref v]) (by first | rfl | kernel_rfl!) ?_)
  show wpAny _ _ (pyIter (.ref v) >>= _) _ _ _
  refine wpAny_bind (DT.iterI (d := d) (es := es) (ep := ep) ⟨_, ev, rfl, rfl⟩ ⟨od, e, t.ex, hdt⟩ ?_)
  refine wpAny_pure ⟨_, rfl, .ref s.heap.objs.size, _, I.laid (t' := s.toks) (fun _ _ z => Heap.get?_push_of_some _ z) (Nat.le_refl _) (exO_ok (od := itemIt d es.size ep) (Heap.get?_push_size _ rfl)), rfl, ?_⟩
  exact q _ od es ep (I.hok.fresh (Nat.le_refl _)) I.sz hd hdt
end
/-! ### a promise that knows how large the heap was -/
def FnI (P : Program) (w : World) (K : PySem.W.Frag) (mg : Str → Option Value) (base : Heap) (k : Nat) (f : Addr) (sp : Nat → Sp) : Prop :=
  ∀ (A : Around) (outer : List Env) (s : Shared) (H : Hp) (us : List Value) (vs : List V) (Q : VK) (E : XK), Room k A → Env0 P w K mg base A outer s H → Vals vs us → sp s.heap.objs.size vs H Q E →
    codeAny (model P w) A (.call (.ref f) ⟨us, []⟩) (CR CX0 outer P w H s Q E) s
section
variable {P : Program} {w : World} {K : PySem.W.Frag} {mg : Str → Option Value} {base : Heap} {k : Nat} {f : Addr} {N ps : List Str} {sp : Nat → Sp}
theorem DefK.fnI {name qual : Str} {st : Stmt} (F : DefK K name qual st [] f) (S : FnScope N ps (defScope st)) (hb : ∀ (kV doc pm : Value) (an : Option Addr) (cdv ct : Value) (us : List Value), us.length = ps.length →
      bindArgs (PySem.W.fnX name qual (defArgs st) (defBody st) (defScope st) [] .none kV doc pm an cdv ct) ⟨us, []⟩ = pure (ps.zip us)) (len : ∀ n vs H Q E, sp n vs H Q E → vs.length = ps.length)
    (hbody : ∀ (cdv : Value) (A : Around) (outer : List Env) (s : Shared) (H : Hp) (vs : List V) (Q : VK) (E : XK), Room k (A.deeper (envOfC qual (defScope st) s.heap.objs.size f cdv)) → sp s.heap.objs.size vs H Q E →
      ∃ t, PSs (cxOf CX0 P w K mg base N qual (defScope st) f cdv A outer s H E).nox (defBody st) t ∧ t { nx := fun _ H' => Q .non H', rt := Q } (start N vs) H) : FnI P w K mg base (k + 1) f sp := by
  obtain ⟨oc, od, kV, doc, pm, an, c0, ct, osl, lk, hcd⟩ := F.ex
  intro A outer s H us vs Q E hr e0 r hsp
  have hl := len _ _ _ _ _ hsp
  have KX : K.In s.heap := e0.mod.kin.keeps fun b o e => (e0.bs b o e).1
  have lim : s.heap.NoLimit := e0.mod.nolimit.keeps fun b o e => (e0.bs b o e).1
  have hkind : ∀ y ∈ ps.zip us, (defScope st).names.lookup y.1 = some .local ∨ ((defScope st).names.lookup y.1 = some .cell ∧ ((cellsFrom (s.heap.objs.size + 1) (defScope st).names []).lookup y.1).isSome = true) := fun ⟨n, v⟩ hy => by
    rcases S.par n (List.of_mem_zip hy).1 with q | q
    · exact .inl q
    · exact .inr ⟨q, PySem.W.cellsFrom_some _ _ _ (.inl q)⟩
  refine codeAny_call_function hr.depth (KX _ _ lk) rfl S.co S.gen rfl (PySem.W.codeRec_of KX hcd) ?_
  rw [hb kV doc pm an (.ref c0) ct us (by rw [← r.length]; exact hl)]
  refine wpAny_pure ?_
  refine wpAny_newFunctionEnv_cells S.kind hkind fun env he s1 x => ?_
  subst he
  refine ⟨lim.keeps x.toInCall.keep, codeAny_func ?_⟩
  obtain ⟨t, ht, hq⟩ := hbody (.ref c0) A outer s H vs Q E (hr.deeper _) hsp
  have I : Inv (cxOf CX0 P w K mg base N qual (defScope st) f (.ref c0) A outer s H E) [] (start N vs) H s1 := inv_start S hr.hd e0 hl r x
  refine wpAny_mono (ht.nox.run [] s1 (start N vs) H _ I hq) (fun fl s' hs => ?_) fun e s' hs => hs
  have fin : ∀ {σ' : L2.St} {H' : Hp} {v : V} {u : Value}, Inv (cxOf CX0 P w K mg base N qual (defScope st) f (.ref c0) A outer s H E) [] σ' H' s' → L2.RelV v u → Q v H' → CE outer P w H s Q u s' :=
    fun {σ' H' v u} J rv q => ⟨v, H', J.os, J.bare, J.base, J.hok, rv, q⟩
  cases fl with
  | ret u =>
    obtain ⟨v, σ', H', J, rv, q⟩ := hs
    exact fin J rv q
  | next =>
    obtain ⟨σ', H', J, q⟩ := hs
    exact fin (v := V.non) (u := Value.none) J rfl q
  | brk =>
    obtain ⟨_, _, _, q⟩ := hs
    exact False.elim q
  | cont =>
    obtain ⟨_, _, _, q⟩ := hs
    exact False.elim q
end
/-- what __iter__ of an own container promises: a new iterator over the items of the dict in its field fl -/
def spIter (P : Program) (w : World) (fl : Str) (Good : Addr → Prop) (n : Nat) : Sp := fun vs H Q _ => ∃ p C dx fs d xs, vs = [.ref p] ∧ H p = some (.ins C dx fs) ∧ Good C ∧ fs.lookup fl = some (.ref d) ∧ TD P w H d xs ∧
  ∀ it H' od es ep, n ≤ it → H it = none → Ex H H' → H d = some (exO d od) → od.data = .dict es ep → H' it = some (exO it (itemIt d es.size ep)) → Q (.ref it) H'
section
variable {X : Cx} {k : Nat} {fl : Str} {Good : Addr → Prop} {pins : List (Addr × Obj)} {σ : L2.St} {H : Hp} {s : Shared} {A : Around} {E : Value → Shared → Prop}
def IterOk (X : Cx) (fl : Str) (k : Nat) (Good : Addr → Prop) : Prop := ∀ C, Good C → ∃ f, PySem.W.findIn X.K (.ref C) "__iter__" = some (some (.ref f)) ∧ PySem.W.isFn X.K (.ref f) = true ∧ FnI X.prog X.w X.K X.mg X.base k f (spIter X.prog X.w fl Good)
theorem own_it (sb : Sub X k A) (M : IterOk X fl k Good) (I : Inv X pins σ H s) {p C dx d : Addr} {fs : List (Str × V)} {xs : List Ent} (hp : H p = some (.ins C dx fs)) (g : Good C) (hl : fs.lookup fl = some (.ref d)) (T : TD X.prog X.w H d xs)
    {Q : Value → Shared → Prop} (h : ∀ it H' od es ep s', Inv X pins σ H' s' → s.heap.objs.size ≤ it → H it = none → Ex H H' → H d = some (exO d od) → od.data = .dict es ep → H' it = some (exO it (itemIt d es.size ep)) → Q (.ref it) s') : wpAny (model X.prog X.w) A (pyIter (.ref p)) Q E s := by
  obtain ⟨f, hs, hf, F⟩ := M C g
  obtain ⟨mA, O, _, _, _, _⟩ := ins_get I.hok hp
  obtain ⟨ob, J, _⟩ := O.look
  obtain ⟨m, hF⟩ := I.fr
  refine PySem.W.owit_iter hF I.ok.mod.kin J hs hf ?_
  have e0 : Env0 X.prog X.w X.K X.mg X.base A X.stack s H := by
    have e := I.env0
    exact ⟨by rw [sb.fr]; exact e.frames, e.mod, e.bs, e.bsz, e.funs, e.frf, e.hok, e.bare⟩
  refine wpAny_call (codeAny_mono (F A X.stack s H [.ref p] [.ref p] (fun v H' => ∃ it od es ep, v = .ref it ∧ s.heap.objs.size ≤ it ∧ H it = none ∧ Ex H H' ∧ H d = some (exO d od) ∧ od.data = .dict es ep ∧ H' it = some (exO it (itemIt d es.size ep))) E0 sb.room e0 (.cons rfl .nil)
    ⟨p, C, dx, fs, d, xs, rfl, hp, g, hl, T, fun it H' od es ep z1 z2 z3 z4 z5 z6 => ⟨it, od, es, ep, rfl, z1, z2, z3, z4, z5, z6⟩⟩) fun r s' hq => ?_)
  cases r with
  | error e => exact False.elim hq
  | ok fw =>
    cases fw with
    | next => exact False.elim hq
    | brk => exact False.elim hq
    | cont => exact False.elim hq
    | ret u =>
      obtain ⟨v, H', I', rv, it, od, es, ep, ev, z1, z2, z3, z4, z5, z6⟩ := I.after hq
      subst ev
      obtain rfl : u = Value.ref it := rv
      have ei : s'.heap.get? it = some (itemIt d es.size ep) := (show ObjOk X.prog X.w H' s'.heap it (exO it _) from I'.hok it _ z6).1
      have hT : s'.TypeIs (.ref it) "dict_itemiterator" := ⟨_, ei, rfl⟩
      unfold PySem.W.OwitIt
      refine wpAny_specialOf (name := Str.ofString "__next__") hT PySem.F.slot_dict_itemiterator_next.lookup ?_
      exact h it H' od es ep s' I' z1 z2 z3 z4 z5 z6
/-- its items, each a new pair -/
def ItTi (d : Addr) (od : Obj) (xs : List Ent) : It :=
  ⟨fun i H => H d = some (exO d od) ∧ i < xs.length, fun i H x H' => ∃ T e, xs[i]? = some e ∧ x = .ref T ∧ H T = none ∧ H' = upd H T (.tup [.ref e.2.1, e.2.2]), fun i H => H d = some (exO d od) ∧ xs.length ≤ i⟩
theorem turn_ti {P : Program} {w : World} {K : PySem.W.Frag} {elts : List Expr} {kk : Nat} {tpos : Pos} {d : Addr} {od : Obj} {xs : List Ent} {es : Array DictEntry} {ep : Nat} {ys : List (List Leaf × Addr × Value)} (it : Addr) (hx : od.ExactDict) (hdt : od.data = .dict es ep) (kr : KR xs ys) (he : es.toList = ys.map (entryOfKey (lkd P w))) :
    Turn P w K (.Tuple elts kk tpos) (ItTi d od xs) [it] it (fun i h => ∃ ok ov, IsItemIter h it d i es.size ep ok ov) where
  mem := by simp
  obj := fun i h st b hb => by
    have e : b = it := by simpa using hb
    subst e
    obtain ⟨ok, ov, e⟩ := st
    exact ⟨_, e, fun v z => nomatch z⟩
  keep := fun i h h' st k => let ⟨ok, ov, e⟩ := st; ⟨ok, ov, k it (by simp) _ e⟩
  item := by
    intro X hP hw hK hc i pins s σ H E I hf st hg
    subst hP hw hK
    obtain ⟨hd, hi⟩ := hg
    have hgd : s.heap.get? d = some od := (show ObjOk X.prog X.w H s.heap d (exO d od) from I.hok d _ hd).1
    have l1 : es.size = ys.length := size_of_entries he
    have l2 : xs.length = ys.length := Paired.length kr
    obtain ⟨y, hy, _, e4, rv⟩ := kr.get (List.getElem?_eq_getElem hi)
    have qe := entry_at he i
    rw [hy] at qe
    obtain ⟨hi2, e5⟩ := Array.getElem?_eq_some_iff.mp qe
    obtain ⟨ok, ov, hit⟩ := st
    have hlt : it < s.heap.objs.size := Heap.lt_size hit
    refine DT.nextI hit ⟨od, hgd, hx, hdt⟩ hi2 fun h' ho hT hz hk => ?_
    refine ⟨_, rfl, wpAny_letOwnedTupleGo_items (s := { s with heap := h' }) ho fun h'' he' sb => ?_⟩
    have hT2 : h''.get? s.heap.objs.size = some { cls := .type "tuple", data := .seq #[es[i].key, es[i].val] } := (sb.2 _ (Nat.ne_of_gt hlt)).trans hT
    rw [e5] at hT2
    have new : ObjOk X.prog X.w (upd H s.heap.objs.size (.tup [.ref xs[i].2.1, xs[i].2.2])) h'' s.heap.objs.size (.tup [.ref xs[i].2.1, xs[i].2.2]) :=
      ⟨by show 2 ≤ sizeLine; decide, [.ref y.2.1, y.2.2], .cons (show Value.ref y.2.1 = Value.ref xs[i].2.1 by rw [e4]) (.cons rv .nil), ⟨_, hT2, rfl, _, rfl⟩⟩
    have I1 : Inv X pins σ (upd H s.heap.objs.size (.tup [.ref xs[i].2.1, xs[i].2.2])) { s with heap := h'' } :=
      I.turnedNew (t' := s.toks) (ch := [it]) (fun b ob hb e => (sb.2 b (by simpa using hb)).trans (hk b ob (by simpa using hb) e)) hf (Nat.le_refl _) new
    refine ⟨.ref s.heap.objs.size, _, I1, rfl, ⟨_, _, List.getElem?_eq_getElem hi, rfl, I.hok.fresh (Nat.le_refl _), rfl⟩, ⟨_, _, he'⟩, fun b hb => ?_⟩
    have e : b = it := by simpa using hb
    rw [e, upd_ne (Nat.ne_of_lt hlt)]
    exact (hf it (by simp)).1
  done := by
    intro X hP hw hK hc i pins s σ H E I hf st hg
    subst hP hw hK
    obtain ⟨hd, hi⟩ := hg
    obtain ⟨f0, f1, f2, f3, f4, f5⟩ := hf it (by simp)
    have hgd : s.heap.get? d = some od := (show ObjOk X.prog X.w H s.heap d (exO d od) from I.hok d _ hd).1
    have l1 : es.size = ys.length := size_of_entries he
    have l2 : xs.length = ys.length := Paired.length kr
    obtain ⟨ok, ov, hit⟩ := st
    exact DT.endI (I.ok.hd hc) hit ⟨od, hgd, hx, hdt⟩ (by omega) fun h' eb => ⟨rfl, I.turned (t' := s.toks) (fun b ob hb e => eb b ob hb e) f0 f1 f3 f4 f5⟩
  self := fun A i s Q E st h => let ⟨_, _, e⟩ := st; PySem.W.kcp_self e h
def YTi (xs : List Ent) : Nat → Hp → V → Hp → Prop := fun i H x H' => ∃ T e, xs[i]? = some e ∧ x = .ref T ∧ H T = none ∧ H' = upd H T (.tup [.ref e.2.1, e.2.2])
theorem walk_ti {d : Addr} {od : Obj} {xs : List Ent} : Walk (ItTi d od xs) xs.length (fun H => H d = some (exO d od)) (YTi xs) :=
  ⟨fun _ _ hi q => ⟨q, hi⟩, fun _ q => ⟨q, Nat.le_refl _⟩, fun _ _ _ _ _ _ y => y⟩
def iOwn (P : Program) (w : World) (fl : Str) (Good : Addr → Prop) (td : TE) : TI := fun σ H R => td σ H fun x H1 => ∃ p C dx fs d od xs, x = .ref p ∧ H1 p = some (.ins C dx fs) ∧ Good C ∧ fs.lookup fl = some (.ref d) ∧ TD P w H1 d xs ∧ H1 d = some (exO d od) ∧ ∀ H2, Ex H1 H2 → R (ItTi d od xs) H2
theorem pi_own {e : Expr} {td : TE} {elts : List Expr} {kk : Nat} {tpos : Pos} (M : IterOk X fl k Good) (hr : Room k X.A) (he : PE X e td) : PI X (.Tuple elts kk tpos) e (iOwn X.prog X.w fl Good td) := by
  refine ⟨fun pins s σ H R I h => ?_⟩
  refine thn (he.run pins s σ H _ I h) fun u s1 ⟨x, H1, I1, rx, p, C, dx, fs, d, od, xs, ex, hp, g, hl, T, hd, q⟩ => ?_
  subst ex
  obtain rfl : u = Value.ref p := rx
  refine own_it ⟨hr, rfl⟩ M I1 hp g hl T fun it H' od' es ep s' I' z1 z2 z3 z4 z5 z6 => ?_
  rw [hd] at z4
  have e1 : od = od' := by
    have t0 : s'.heap.get? d = some od := (show ObjOk X.prog X.w H' s'.heap d (exO d od) from I'.hok d _ (z3 d _ hd)).1
    have z4' : exO d od = exO d od' := Option.some.inj z4
    have t1 : s'.heap.get? d = some od' := (show ObjOk X.prog X.w H' s'.heap d (exO d od') from z4' ▸ I'.hok d _ (z3 d _ hd)).1
    exact Option.some.inj (t0.symm.trans t1)
  subst e1
  obtain ⟨od2, hd2, _, t, _⟩ := T.of I1.hok
  have e2 : od = od2 := by
    have t0 : s'.heap.get? d = some od := (show ObjOk X.prog X.w H' s'.heap d (exO d od) from I'.hok d _ (z3 d _ hd)).1
    have t1 : s'.heap.get? d = some od2 := (show ObjOk X.prog X.w H' s'.heap d (exO d od2) from I'.hok d _ (z3 d _ hd2)).1
    exact Option.some.inj (t0.symm.trans t1)
  subst e2
  obtain ⟨es', ep', ys, hdt, kr, hes⟩ := t.dt
  obtain ⟨e3, e4⟩ := dict_ep z5 hdt
  subst e3 e4
  have ei : s'.heap.get? it = some (itemIt d es'.size ep') := (show ObjOk X.prog X.w H' s'.heap it (exO it _) from I'.hok it _ z6).1
  refine ⟨it, [it], _, _, ItX.dropH H' it, rfl, ItX.inv_drop I' z6, turn_ti it t.ex hdt kr hes, ⟨.none, .none, ei⟩, fun b hb => ?_, q _ (z3.drop z2)⟩
  have e : b = it := by simpa using hb
  rw [e]
  exact ItX.inv_fp I' z6 (Nat.le_trans I1.sz z1)
end
end Hs
set_option Elab.async false
set_option linter.all false
set_option maxRecDepth 100000
set_option maxHeartbeats 4000000
/-! list(o) of an own container with __len__ and __iter__ over a dict's items. -/
namespace Hs
open PySem PySem.Spec PyProof.Rows L2
/-- the pairs tracked at their addresses -/
def putP : Hp → List Addr → List Ent → Hp
  | H, a :: as, e :: xs => putP (upd H a (.tup [.ref e.2.1, e.2.2])) as xs
  | H, _, _ => H
theorem putP_off {b : Addr} : ∀ (as : List Addr) (xs : List Ent) (H : Hp), b ∉ as → putP H as xs b = H b
  | [], _, _, _ => rfl
  | _ :: _, [], _, _ => rfl
  | a :: as, e :: xs, H, h => by
    show putP (upd H a _) as xs b = H b
    rw [putP_off as xs _ (fun z => h (List.mem_cons_of_mem _ z)), upd_ne (fun z => h (by rw [z]; exact List.mem_cons_self))]
theorem putP_at : ∀ (as : List Addr) (xs : List Ent) (H : Hp), as.length = xs.length → as.Nodup → Paired (fun (t : Addr) (e : Ent) => putP H as xs t = some (.tup [.ref e.2.1, e.2.2])) as xs
  | [], [], _, _, _ => .nil
  | [], _ :: _, _, h, _ => by cases h
  | _ :: _, [], _, h, _ => by cases h
  | a :: as, e :: xs, H, h, hn => by
    have hn' := List.nodup_cons.mp hn
    refine .cons ?_ (putP_at as xs (upd H a (.tup [.ref e.2.1, e.2.2])) (Nat.succ.inj h) hn'.2)
    show putP (upd H a _) as xs a = _
    rw [putP_off as xs _ hn'.1, upd_same]
end Hs
namespace DT
open PySem PySem.Spec PyProof.Rows PySem.W
section
variable {prog : Program} {w : World} {A : Around} {s : Shared} {R : Result → Shared → Prop} {es : Array DictEntry} {ep : Nat}
/-- the loop of list.extend over a dict's items, the new pairs above lo -/
theorem loopP {S I d lo : Addr} (hh : A.handled = none) (hSI : S < I) (hSd : d ≠ S) (hId : d ≠ I) (hlo : I ≤ lo) (hn : es.size ≤ sizeLine) (res : Value) {h₁ : Heap}
    (hR : ∀ h' tk acc c as, (∀ b o, b ≠ S → b ≠ I → h₁.get? b = some o → h'.get? b = some o) → h'.get? S = some { cls := .type "list", dict := none, data := .seq acc c, slots := #[] } → as.length = es.size → Made es lo h' as →
      acc.toList = as.map Value.ref → R (.ok (.ret res)) { s with heap := h', toks := tk }) :
    ∀ (k i : Nat) (h : Heap) (tk c : Nat) (acc : Array Value) (as : List Addr), es.size - i = k → i ≤ es.size → KdxSt h I d S i es.size ep → Raw h d es ep → (∀ b o, b ≠ S → b ≠ I → h₁.get? b = some o → h.get? b = some o) →
      h.get? S = some { cls := .type "list", dict := none, data := .seq acc c, slots := #[] } → acc.toList = as.map Value.ref → as.length = i → Made es lo h as → lo < h.objs.size →
      codeAny (model prog w) A (.builtin "list.extend.loop" ⟨[.ref S, .ref I, res], []⟩) R { s with heap := h, toks := tk } := by
  have nK : S ≠ I := Nat.ne_of_lt hSI
  intro k
  induction k with
  | zero =>
    intro i h tk c acc as hk hi tK hD kK hS aK lK hG zK
    refine codeAny_builtin PySem.F.entry_extend_loop ?_
    rw [Around.under_plainId PySem.F.plain_extend_loop _]
    show wpAny _ A.in1 (pyNext (.ref I) >>= _) _ _ _
    refine wpAny_bind (finI (s := { s with heap := h, toks := tk }) (A := A.in1) hh tK hD (by omega) fun h' he => ?_)
    refine wpAny_pure (hR h' tk acc c as (fun b o h1 h2 e => he b o h2 (kK b o h1 h2 e)) (he S _ nK hS) (by omega) ⟨hG.rise, hG.above, fun j a hj => ?_⟩ aK)
    obtain ⟨e, e1, e3⟩ := hG.pairs j a hj
    exact ⟨e, e1, he a _ (Nat.ne_of_gt (Nat.lt_of_le_of_lt hlo (hG.above a (List.mem_of_getElem? hj)))) e3⟩
  | succ k ih =>
    intro i h tk c acc as hk hi tK hD kK hS aK lK hG zK
    have gK : i < es.size := by omega
    have yK : acc.size = i := by rw [← Array.length_toList, aK, List.length_map, lK]
    refine codeAny_builtin PySem.F.entry_extend_loop ?_
    rw [Around.under_plainId PySem.F.plain_extend_loop _]
    show wpAny _ A.in1 (pyNext (.ref I) >>= _) _ _ _
    refine wpAny_bind (nxtI (s := { s with heap := h, toks := tk }) (S := S) tK (Heap.lt_size hS) hD gK fun h' tK' ht hz pK => ?_)
    dsimp only at ht hz pK ⊢
    have hS' := pK S _ nK hS
    have up : ∀ b o, b ≠ S → h'.get? b = some o → (h'.update S (Obj.mapSeq (·.push (Value.ref h.objs.size)))).get? b = some o := fun b o hb e => (Heap.get?_update_other _ _ (Ne.symm hb)).trans e
    have wK : S < h.objs.size := Heap.lt_size hS
    show wpAny _ A.in1 (updateSeq S (·.push (Value.ref h.objs.size)) >>= _) _ _ _
    refine wpAny_bind ?_
    refine wpAny_updateSeq hS' rfl (wpAny_pure ⟨plainId_quiet PySem.F.plain_extend_loop _, ih (i + 1) _ tk _ (acc.push (Value.ref h.objs.size)) (as ++ [h.objs.size]) (by omega) gK (tK'.keep up (Ne.symm nK)) (hD.at' fun o e => up d o hSd (pK d o hId e))
      (fun b o h1 h2 e => up b o h1 (pK b o h2 (kK b o h1 h2 e))) (Heap.get?_update_self _ hS' rfl) (by rw [Array.toList_push, aK, List.map_append]; rfl) (by rw [List.length_append, lK]; rfl) ⟨?_, ?_, ?_⟩ ?_⟩) (by rw [yK]; omega) (by show (acc.push (Value.ref h.objs.size)).size ≤ sizeLine + 1; rw [Array.size_push, yK]; omega)
    · refine List.pairwise_append.mpr ⟨hG.rise, List.pairwise_singleton _ _, fun a ha b hb => ?_⟩
      rw [List.mem_singleton.mp hb]
      exact hG.there ha
    · intro a ha
      rcases List.mem_append.mp ha with ha | ha
      · exact hG.above a ha
      · rw [List.mem_singleton.mp ha]; exact zK
    · intro j b hj
      rcases Nat.lt_trichotomy j as.length with h1 | h1 | h1
      · rw [List.getElem?_append_left h1] at hj
        obtain ⟨e', e1, e3⟩ := hG.pairs j b hj
        have hb := Nat.lt_of_le_of_lt hlo (hG.above b (List.mem_of_getElem? hj))
        exact ⟨e', e1, up b _ (Nat.ne_of_gt (Nat.lt_trans hSI hb)) (pK b _ (Nat.ne_of_gt hb) e3)⟩
      · subst h1
        have hb : h.objs.size = b := by simpa using hj
        subst hb
        exact ⟨es[as.length]'(by rw [lK]; exact gK), Array.getElem?_eq_getElem _, up _ _ (Nat.ne_of_gt wK) (by subst lK; exact ht)⟩
      · have hnone : (as ++ [h.objs.size])[j]? = none := List.getElem?_eq_none (by rw [List.length_append, List.length_singleton]; omega)
        rw [hnone] at hj; cases hj
    · have e : (h'.update S (Obj.mapSeq (·.push (Value.ref h.objs.size)))).get? h.objs.size = _ := up _ _ (Nat.ne_of_gt wK) ht
      exact Nat.lt_trans zK (Heap.lt_size e)
end
end DT
namespace Hs
open PySem PySem.Spec PyProof.Rows L2
section
variable {X : Cx} {k : Nat} {fl : Str} {Good : Addr → Prop} {pins : List (Addr × Obj)} {σ : L2.St} {H : Hp} {s : Shared} {A : Around}
/-- the list at S, the pairs at as are tracked; S and it turned -/
theorem pairs_laid {h' : Heap} {tk c lo : Nat} {xs : List Ent} {es : Array DictEntry} {ys : List (List Leaf × Addr × Value)} {acc : Array Value} {as : List Addr} {S it : Addr} (I : Inv X pins σ H s) (hz : xs.length ≤ sizeLine) (kr : KR xs ys) (he : es.toList = ys.map (entryOfKey (lkd X.prog X.w)))
    (fS : FpOk X pins H S) (fI : FpOk X pins H it) (hk : ∀ b o, b ≠ S → b ≠ it → s.heap.get? b = some o → h'.get? b = some o) (hS : h'.get? S = some { cls := .type "list", dict := none, data := .seq acc c, slots := #[] }) (hl : as.length = es.size) (hlo : s.heap.objs.size ≤ lo + 1) (hSi : S ≤ lo) (hG : DT.Made es lo h' as) (hacc : acc.toList = as.map Value.ref) :
    ∃ H' : Hp, Ex H H' ∧ (∀ t, t ∈ as → H t = none ∧ t ≠ S) ∧ H' S = some (.lst (as.map V.ref)) ∧ Paired (fun (t : Addr) (e : Ent) => H' t = some (.tup [.ref e.2.1, e.2.2])) as xs ∧ Inv X pins σ H' { s with heap := h', toks := tk } := by
  have l1 : es.size = ys.length := size_of_entries he
  have l2 : xs.length = ys.length := Paired.length kr
  have above : ∀ t, t ∈ as → s.heap.objs.size ≤ t := fun t ht => Nat.le_trans hlo (hG.above t ht)
  have hSn : S ∉ as := fun z => absurd (hG.above _ z) (Nat.not_lt.mpr hSi)
  have nd : as.Nodup := List.Pairwise.imp (fun {a b} (h : a < b) => Nat.ne_of_lt h) hG.rise
  have new : ∀ t, t ∈ as → H t = none := fun t ht => I.hok.fresh (above t ht)
  have newS : H S = none := fS.1
  have atP := putP_at as xs (upd H S (.lst (as.map V.ref))) (by omega) nd
  have off : ∀ b, b ∉ as → b ≠ S → putP (upd H S (.lst (as.map V.ref))) as xs b = H b := fun b h1 h2 => by rw [putP_off as xs _ h1, upd_ne h2]
  have kp : Ex H (putP (upd H S (.lst (as.map V.ref))) as xs) := fun b u e => by
    rw [off b (fun z => by rw [new b z] at e; cases e) (fun z => by rw [z, newS] at e; cases e)]
    exact e
  have eS : putP (upd H S (.lst (as.map V.ref))) as xs S = some (.lst (as.map V.ref)) := by rw [putP_off as xs _ hSn, upd_same]
  have live : ∀ b u, H b = some u → b ≠ S ∧ b ≠ it := fun b u e => ⟨fun z => (by rw [z, newS] at e; cases e), fun z => (by rw [z, fI.1] at e; cases e)⟩
  refine ⟨putP (upd H S (.lst (as.map V.ref))) as xs, kp, fun t ht => ⟨new t ht, fun z => hSn (z ▸ ht)⟩, eS, atP, ?_⟩
  have ch : ∀ b, b ∈ [S, it] → FpOk X pins H b := fun b hb => by
    rcases List.mem_cons.mp hb with e | hb
    · rw [e]; exact fS
    · rw [List.mem_singleton.mp hb]; exact fI
  refine I.call' (ch := [S, it]) rfl ⟨fun b o q _ _ hc => hk b o (fun z => hc (by simp [z])) (fun z => hc (by simp [z])) q, fun b o q _ _ hc => ⟨o.slots, hk b o (fun z => hc (by simp [z])) (fun z => hc (by simp [z])) q⟩, fun b o q n hc => ?_,
    fun b o q hc => ⟨o, hk b o (fun z => hc (by simp [z])) (fun z => hc (by simp [z])) q⟩, fun b ws q => kp b _ q, fun b o u q => kp b _ q, fun b ps q => ⟨#[], by rw [kp b _ q]; simp⟩⟩ (fun b u q => ?_) I.bare fun b hb => ?_
  · rw [off b (fun z => absurd (Heap.lt_size q) (Nat.not_lt.mpr (above b z))) (fun z => hc (by simp [z]))]
    exact n
  · by_cases hb : b ∈ as
    · obtain ⟨j, e, e1, e2, e3⟩ := LiI.paired_ix atP hb
      rw [e3] at q
      cases q
      obtain ⟨en, f1, f2⟩ := hG.pairs j b e1
      obtain ⟨y, g1, _, g3, g4⟩ := kr.get e2
      have qe := entry_at he j
      rw [f1, g1] at qe
      have qe : en = entryOfKey (lkd X.prog X.w) y := Option.some.inj qe
      rw [qe] at f2
      exact ⟨by show 2 ≤ sizeLine; decide, [.ref y.2.1, y.2.2], .cons (show Value.ref y.2.1 = Value.ref e.2.1 by rw [g3]) (.cons g4 .nil), ⟨_, f2, rfl, _, rfl⟩⟩
    · by_cases hb2 : b = S
      · rw [hb2] at q ⊢
        rw [eS] at q
        cases q
        refine ⟨by rw [List.length_map]; omega, acc.toList, c, by rw [hacc]; exact LiI.vals_refs as, ?_⟩
        rw [Array.toArray_toList]
        exact hS
      · rw [off b hb hb2] at q
        refine (I.hok b u q).stay (fun d v hd y => ?_) (fun d y => kp d _ y) fun d ws y => kp d _ y
        rcases hd with z | z
        · rw [z] at y ⊢
          exact hk b v (live b u q).1 (live b u q).2 y
        · exact hk d v (live d _ z).1 (live d _ z).2 y
  · obtain ⟨_, f1, _, f3, f4, f5⟩ := ch b hb
    exact ⟨f3, f1, f4, f5⟩
/-- what __len__ of an own container promises: the number of the dict's keys -/
def spLen (P : Program) (w : World) (fl : Str) (Good : Addr → Prop) : Sp := fun vs H Q _ => ∃ p C dx fs d xs, vs = [.ref p] ∧ H p = some (.ins C dx fs) ∧ Good C ∧ fs.lookup fl = some (.ref d) ∧ TD P w H d xs ∧
  ∀ H', Ex H H' → Q (.int ((xs.length : Nat) : Int)) H'
def LenOk (X : Cx) (fl : Str) (k : Nat) (Good : Addr → Prop) : Prop := ∀ C, Good C → ∃ f, PySem.W.findIn X.K (.ref C) "__len__" = some (some (.ref f)) ∧ PySem.W.isFn X.K (.ref f) = true ∧ FnR X.prog X.w X.K X.mg X.base CX0 k f (spLen X.prog X.w fl Good)
theorem len_at (sb : Sub X k A.in1) (M : LenOk X fl k Good) (I : Inv X pins σ H s) {E : Value → Shared → Prop} {p C dx d : Addr} {fs : List (Str × V)} {xs : List Ent} (hp : H p = some (.ins C dx fs)) (g : Good C) (hl : fs.lookup fl = some (.ref d)) (T : TD X.prog X.w H d xs) (hz : xs.length ≤ sizeLine)
    {Q : Value → Shared → Prop} (h : ∀ H' s' t, Inv X pins σ H' s' → Ex H H' → Q (.int ((xs.length : Nat) : Int) t) s') : wpAny (model X.prog X.w) A (call (.builtin "len") [.ref p]) Q E s := by
  obtain ⟨f, hs, hf, F⟩ := M C g
  obtain ⟨mA, O, _, _, _, _⟩ := ins_get I.hok hp
  obtain ⟨ob, J, _⟩ := O.look
  obtain ⟨m, hF⟩ := I.fr
  have e0 : Env0 X.prog X.w X.K X.mg X.base A.in1 X.stack s H := by
    have e := I.env0
    exact ⟨by rw [sb.fr]; exact e.frames, e.mod, e.bs, e.bsz, e.funs, e.frf, e.hok, e.bare⟩
  refine PySem.W.len_K hF I.ok.mod.kin J hs hf (wpAny_call (codeAny_mono (F A.in1 X.stack s H [.ref p] [.ref p] (fun v H' => v = .int ((xs.length : Nat) : Int) ∧ Ex H H') E0 sb.room e0 (.cons rfl .nil)
    ⟨p, C, dx, fs, d, xs, rfl, hp, g, hl, T, fun H' e => ⟨rfl, e⟩⟩) fun r s' hq => ?_))
  cases r with
  | error e => exact False.elim hq
  | ok fw =>
    cases fw with
    | next => exact False.elim hq
    | brk => exact False.elim hq
    | cont => exact False.elim hq
    | ret u =>
      obtain ⟨v, H', I', rv, ev, z⟩ := I.after hq
      subst ev
      obtain ⟨t, rfl⟩ := rv
      rw [sizeLine_eq] at hz
      exact ⟨⟨by omega, by omega⟩, h H' _ _ (I'.tok _) z⟩
/-- list(o) -/
def rOwnList (P : Program) (w : World) (fl : Str) (Good : Addr → Prop) : List V → Hp → VK → Prop := fun vs H Q => ∃ p C dx fs d xs, vs = [.ref p] ∧ H p = some (.ins C dx fs) ∧ Good C ∧ fs.lookup fl = some (.ref d) ∧ TD P w H d xs ∧
  ∀ S as H', H S = none → (∀ t, t ∈ as → H t = none ∧ t ≠ S) → Ex H H' → H' S = some (.lst (as.map V.ref)) → Paired (fun (t : Addr) (e : Ent) => H' t = some (.tup [.ref e.2.1, e.2.2])) as xs → Q (.ref S) H'
theorem call_ownList {kl : Nat} (M : IterOk X fl k Good) (ML : LenOk X fl kl Good) (hr : Room (k + 3) X.A) (hrl : Room (kl + 4) X.A) (hc : X.calm = true) : CallR X (.type "list") (rOwnList X.prog X.w fl Good) := by
  intro pins s σ H vs us Q I rv h
  obtain ⟨p, C, dx, fs, d, xs, rfl, hp, g, hl, T, hq⟩ := h
  obtain ⟨u, rfl, ru⟩ := rv.one
  obtain rfl : u = Value.ref p := ru
  have sb : Sub X k X.A.in1.in1 := Sub.mono (Sub.in1 (Sub.in1 (⟨hr, rfl⟩ : Sub X (k + 3) X.A))) (Nat.le_succ _)
  have sbl : Sub X kl X.A.in1.in1.in1 := Sub.mono (Sub.in1 (Sub.in1 (Sub.in1 (⟨hrl, rfl⟩ : Sub X (kl + 4) X.A)))) (Nat.le_succ _)
  refine callType_codes (Q₁ := fun obj s₁ => obj = .ref s.heap.objs.size ∧ s₁ = { s with heap := s.heap.push { cls := .type "list", data := .seq #[] } }) PySem.F.called_list (PySem.F.typeCall_list_1 _) PySem.F.entry_list_init
    (code_list_new _ ⟨rfl, rfl⟩) fun obj s₁ h₁ => ?_
  obtain ⟨rfl, rfl⟩ := h₁
  have hS : (s.heap.push { cls := .type "list", data := .seq #[] }).get? s.heap.objs.size = some { cls := .type "list", data := .seq #[] } := Heap.get?_push_size _ rfl
  refine ⟨⟨_, hS, rfl⟩, PySem.F.args_list_init_2 _ _, ?_⟩
  generalize eS : s.heap.objs.size = S at hS ⊢
  have fr : H S = none := I.hok.fresh (Nat.le_of_eq eS)
  have yS : X.s_0.heap.objs.size ≤ S := eS ▸ I.sz
  refine wpAny_bind ?_
  unfold Builtin.List.listItems
  refine wpAny_bind (wpAny_seqItems hS rfl (wpAny_pure ?_))
  show wpAny _ _ (updateSeq S (fun _ => #[]) >>= fun _ => letGo (#[] : Array Value).toList.reverse >>= fun _ => Builtin.List.listExtendWith (.ref S) (.ref p) .none) _ _ _
  refine wpAny_bind (wpAny_updateSeq hS rfl ?_)
  refine wpAny_bind (wpAny_letGo ?_)
  have hS2 : ((s.heap.push { cls := .type "list", data := .seq #[] }).update S (Obj.mapSeq fun _ => #[])).get? S = some { cls := .type "list", data := .seq #[] } := Heap.get?_update_self _ hS rfl
  have I1 : Inv X pins σ (upd H S (exO S { cls := .type "list", data := .seq #[] })) { s with heap := (s.heap.push { cls := .type "list", data := .seq #[] }).update S (Obj.mapSeq fun _ => #[]) } :=
    I.laid (t' := s.toks) (fun b o e => (Heap.get?_update_other _ _ (by have := Heap.lt_size e; rw [eS] at this; exact Ne.symm (Nat.ne_of_lt this))).trans (Heap.get?_push_of_some _ e)) (Nat.le_of_eq eS) (exO_ok hS2)
  generalize hs1 : ({ s with heap := (s.heap.push { cls := .type "list", data := .seq #[] }).update S (Obj.mapSeq fun _ => #[]) } : Shared) = s1 at I1
  show wpAny _ X.A.in1.in1 (Builtin.List.listExtendWith (.ref S) (.ref p) .none) _ _ _
  have e1 : Ex H (upd H S (exO S { cls := .type "list", data := .seq #[] })) := Ex.new fr
  have hp1 := e1 p _ hp
  have T1 := T.mono e1
  have zS : S < s1.heap.objs.size := by
    have e := (show ObjOk X.prog X.w (upd H S (exO S { cls := .type "list", data := .seq #[] })) s1.heap S (exO S _) from I1.hok S _ upd_same).1
    exact Heap.lt_size e
  have hne : S ≠ p := fun z => by rw [← z, fr] at hp; cases hp
  obtain ⟨mA, O, _, _, _, _⟩ := ins_get I1.hok hp1
  obtain ⟨ob, J, _⟩ := O.look
  unfold Builtin.List.listExtendWith
  refine wpAny_bind (J.type.here ?_)
  have h1 : Builtin.List.listSameRef (.ref S) (.ref p) = false := by simp [Builtin.List.listSameRef, hne]
  have h2 : (Value.ref C == Value.type "list") = false := rfl
  have h3 : (Value.ref C == Value.type "tuple") = false := rfl
  simp only [h1, h2, h3, Bool.or_false, Bool.false_eq_true, if_false]
  refine wpAny_bind (own_it sb M I1 hp1 g hl T1 fun it H2 od es ep s2 I2 z1 z2 z3 z4 z5 z6 => ?_)
  have e2 := e1.trans z3
  have hSit : S < it := Nat.lt_of_lt_of_le zS z1
  refine wpAny_bind (wpAny_holding ?_)
  obtain ⟨od', hd', _, t, _⟩ := T1.of I1.hok
  have hz := t.len
  -- the hint
  obtain ⟨fl', hls, hlf, FL⟩ := ML C g
  obtain ⟨mA2, O2, _, _, _, _⟩ := ins_get I2.hok (e2 p _ hp)
  obtain ⟨ob2, J2, _⟩ := O2.look
  have hint : wpAny (model X.prog X.w) X.A.in1.in1 (Builtin.List.listLengthHint (.ref p)) (fun b s3 => ∃ H3, Inv X pins σ H3 s3 ∧ Ex H2 H3) (fun _ _ => False) s2 := by
    unfold Builtin.List.listLengthHint
    refine wpAny_bind (wpAny_bind (J2.type.here ((PySem.W.looks_findIn I2.kIn hls).here ?_)))
    refine PySem.W.KFB.if_not rfl ?_
    refine wpAny_ite_split (fun _ => ?_) (fun hab => absurd rfl hab)
    refine wpAny_bind (wpAny_rule ?_)
    refine wpAny_bind (wpAny_attempt (len_at sbl ML I2 (e2 p _ hp) g hl (T1.mono z3) hz fun H3 s3 t I3 z => ?_))
    refine wpAny_bind (wpAny_pure ?_)
    refine wpAny_ite_split (fun hab => absurd hab ?_) (fun _ => wpAny_pure ⟨H3, I3, z⟩)
    have e : ((xs.length : Nat) : Int).toNat = xs.length := Int.toNat_natCast _
    rw [e]
    unfold Builtin.List.listTooLong
    simp
    omega
  refine wpAny_mono hint (fun b s3 hh => ?_) fun e s' he => ?_
  · obtain ⟨H3, I3, e3⟩ := hh
    have z7 := e3 it _ z6
    have ei : s3.heap.get? it = some (itemIt d es.size ep) := (show ObjOk X.prog X.w H3 s3.heap it (exO it _) from I3.hok it _ z7).1
    have z8 : H3 S = some (exO S { cls := .type "list", data := .seq #[] }) := e3 S _ (z3 S _ upd_same)
    have eo : s3.heap.get? S = some { cls := .type "list", data := .seq #[] } := (show ObjOk X.prog X.w H3 s3.heap S (exO S _) from I3.hok S _ z8).1
    have ed : s3.heap.get? d = some od := (show ObjOk X.prog X.w H3 s3.heap d (exO d od) from I3.hok d _ (e3 d _ (z3 d _ z4))).1
    have ed' : s3.heap.get? d = some od' := (show ObjOk X.prog X.w H3 s3.heap d (exO d od') from I3.hok d _ (e3 d _ (z3 d _ hd'))).1
    have eod : od = od' := Option.some.inj (ed.symm.trans ed')
    subst eod
    obtain ⟨es', ep', ys, hdt, kr, hes⟩ := t.dt
    obtain ⟨q1, q2⟩ := dict_ep z5 hdt
    subst q1 q2
    have l1 : es'.size = ys.length := size_of_entries hes
    have l2 : xs.length = ys.length := Paired.length kr
    have I4 := ItX.inv_drop I3 z7
    have f4 := ItX.inv_fp I3 z7 (Nat.le_trans I1.sz z1)
    have hSne : S ≠ it := Nat.ne_of_lt hSit
    have z8' : ItX.dropH H3 it S = some (exO S { cls := .type "list", data := .seq #[] }) := by rw [ItX.dropH_ne hSne]; exact z8
    have I5 := ItX.inv_drop I4 z8'
    have f5 := ItX.inv_fp I4 z8' yS
    have f4' : FpOk X pins (ItX.dropH (ItX.dropH H3 it) S) it := ⟨by rw [ItX.dropH_ne (Ne.symm hSne)]; exact f4.1, f4.2⟩
    have hit0 : H it = none := by
      cases hh : H it with
      | none => rfl
      | some o => rw [e1 it o hh] at z2; cases z2
    have eH : Ex H (ItX.dropH (ItX.dropH H3 it) S) := ((e2.trans e3).drop hit0).drop fr
    have hdS : d ≠ S := fun z => by
      obtain ⟨⟨o, h0, _⟩, _⟩ := T
      rw [z, fr] at h0
      cases h0
    have hdit : d ≠ it := fun z => by rw [← z, z4] at z2; cases z2
    have hitl : it < s3.heap.objs.size := Heap.lt_size ei
    obtain ⟨lo, hlo1⟩ : ∃ lo : Nat, s3.heap.objs.size = lo + 1 := ⟨s3.heap.objs.size - 1, by omega⟩
    have hlo2 : it ≤ lo := by rw [hlo1] at hitl; exact Nat.le_of_lt_succ hitl
    have key : ∀ (h : Heap) (c₁ tk : Nat), (∀ b o, b ≠ S → s3.heap.get? b = some o → h.get? b = some o) → h.get? S = some { cls := .type "list", data := .seq #[] c₁ } → h.objs.size = s3.heap.objs.size →
        codeAny (model X.prog X.w) X.A.in1 (.builtin "list.extend.loop" ⟨[.ref S, .ref it, .none], []⟩) (wants (fun r s₂ => r = .none ∧ EP X pins σ Q (.ref S) s₂) X.xe) { s3 with heap := h, toks := tk } := fun h c₁ tk hk hS1 hsz => by
      refine DT.loopP (prog := X.prog) (w := X.w) (A := X.A.in1) (es := es') (ep := ep') (s := s3) (h₁ := s3.heap) (S := S) (I := it) (d := d) (lo := lo) (I.ok.hd hc) hSit hdS hdit hlo2 (by omega) .none (fun h' tk' acc c as hk' hS' hlen hG hacc => ?_)
        es'.size 0 h tk c₁ #[] [] (Nat.sub_zero _) (Nat.zero_le _) (.inl ⟨rfl, .none, .none, hk it _ (Ne.symm hSne) ei⟩) ⟨od, hk d _ hdS ed, t.ex, hdt⟩ (fun b o hb _ e => hk b o hb e) hS1 rfl rfl ⟨List.Pairwise.nil, (fun _ ha => nomatch ha), (fun j a hj => by simp at hj)⟩ (by rw [hsz, hlo1]; exact Nat.lt_succ_self _)
      obtain ⟨H6, y1, y2, y3, y4, J⟩ := pairs_laid (tk := tk') I5 hz kr hes f5 f4' hk' hS' hlen (Nat.le_of_eq hlo1) (Nat.le_trans (Nat.le_of_lt hSit) hlo2) hG hacc
      refine ⟨rfl, .ref S, H6, J, rfl, hq S as H6 fr (fun b hb => ⟨?_, (y2 b hb).2⟩) (eH.trans y1) y3 y4⟩
      exact eH.free (y2 b hb).1
    refine wpAny_ite_split (fun _ => ?_) (fun _ => wpAny_pure ⟨plainId_quiet PySem.F.plain_extend_loop _, key _ _ _ (fun b o _ e => e) eo rfl⟩)
    refine wpAny_bind (wpAny_rule ?_)
    refine wpAny_bind ?_
    show wpAny _ _ (updateSeq S (·.push .none) >>= fun _ => updateSeq S (·.pop)) _ _ _
    refine wpAny_bind (wpAny_updateSeq eo rfl ?_)
    have hS₂ := Heap.get?_update_self (Obj.mapSeq (·.push Value.none)) eo rfl
    refine wpAny_updateSeq (hz := by seq_fits) hS₂ rfl ?_
    have hS₃ := Heap.get?_update_self (Obj.mapSeq (·.pop)) hS₂ rfl
    refine wpAny_pure ⟨plainId_quiet PySem.F.plain_extend_loop _, key _ _ _ (fun b o hb e => ?_) hS₃ ?_⟩
    · exact (Heap.get?_update_other _ _ (Ne.symm hb)).trans ((Heap.get?_update_other _ _ (Ne.symm hb)).trans e)
    · simp
  · exact False.elim he
end
end Hs
set_option Elab.async false
set_option linter.all false
set_option maxRecDepth 100000
set_option maxHeartbeats 4000000
/-! Dict comprehensions whose keys are tuples. -/
namespace Hs
open PySem PySem.Spec PyProof.Rows L2
def newD : Obj := { cls := .type "dict", data := .dict #[] }
theorem newD_ok {P : Program} {w : World} {d : Addr} (h : (d == sysModules) = false) : TDo P w d newD [] := ⟨h, ⟨rfl, rfl, rfl⟩, Nat.zero_le _, ⟨#[], 0, [], rfl, .nil, rfl⟩, List.nodup_nil⟩
theorem td_dictSet {X : Cx} {pins : List (Addr × Obj)} {σ : L2.St} {H : Hp} {s : Shared} {E : Value → Shared → Prop} {D b : Addr} {k : List Leaf} {xs : List Ent} {v : V} {r : Value} {Q : Unit → Shared → Prop} (hu : X.A.units + 2 < cLine) (I : Inv X pins σ H s) (T : TD X.prog X.w H D xs) (hb : H b = some (.tup (k.map lV)))
    (hz : xs.length < sizeLine) (rv : RelV v r) (h : ∀ H' s', TDn X.prog X.w H H' D (tst xs k b v) → Inv X pins σ H' s' → Q () s') : wpAny (model X.prog X.w) X.A (dictSet D (.ref b) r) Q E s := by
  obtain ⟨od, hd, e, t, ys, kr, m⟩ := T.of I.hok
  have hl : ys.length ≤ sizeLine := by have := Paired.length kr; omega
  refine wpAny_dictSet_heap (hsz := hl) (knd := lkd X.prog X.w) (show X.A.units < cLine by omega) (lkey I.hok hb) m fun h' m' hs => ?_
  obtain ⟨od', I', n⟩ := td_store (k := k) (t' := s.toks + (lkd X.prog X.w).draws k) I T kr rv hz m' hs
  exact h _ _ n I'
section
variable {X : Cx}
/-- {k: v for target in iter if ..}, keys tuples: D the new dict -/
def tTc (P : Program) (w : World) (wi : TI) (g : TG) (tt : TT) (tk tv : TE) (vs : List Nat) : TE := fun σ H Q => wi σ H fun J H1 => ∀ D Hn, H1 D = none → (∀ b, b ≠ D → Hn b = H1 b) → TD P w Hn D [] → ∃ W : Nat → Nat → Hp → Prop, (∃ m, W 0 m Hn) ∧ ∀ i m H, W i m H →
  (J.stop i H ∧ Q (.ref D) H) ∨ (J.go i H ∧ ∃ Nx : Hp → Prop, (∀ H', Nx H' → ∃ m', m' < m ∧ W (i + 1) m' H') ∧ ∀ x H', J.yld i H x H' → g x (wipe σ vs) H' fun σ2 H2 => wipe σ2 vs = wipe σ vs ∧ tt σ2 H2 fun b H3 =>
    if b = true then tk σ2 H3 fun y H4 => tv σ2 H4 fun z H5 => ∃ c k xs, y = .ref c ∧ TD P w H5 D xs ∧ H5 c = some (.tup (k.map lV)) ∧ xs.length < sizeLine ∧ ∀ H6, TDn P w H5 H6 D (tst xs k c z) → Nx H6 else Nx H3)
theorem tc_core {pins : List (Addr × Obj)} {s : Shared} {σ : L2.St} {H : Hp} {Q : VK} {kx vx tg iter : Expr} {ifs : List Expr} {scope : Scope} {own : List (Str × Nat)} {pos pos' : Pos} {wi : TI} {g : TG} {tt : TT} {tk tv : TE} {use : Option (Value → Sem Unit)} {Qf : Value → Shared → Prop}
    (hu : X.A.units + 2 < cLine) (hc : X.calm = true) (hN : X.N.Nodup) (I : Inv X pins σ H s) (hi : PI X tg iter wi) (ok : BlkOk X.N X.env.scope scope own)
    (hg : ∀ (s : Shared) (H : Hp) (C : Addr) (cl : List (Str × Addr)) (fp : List Addr), PG (X.blk s H scope (compEnvC scope cl C X.env) fp) tg g) (ht : ∀ (s : Shared) (H : Hp) (C : Addr) (cl : List (Str × Addr)) (fp : List Addr), PTs (X.blk s H scope (compEnvC scope cl C X.env) fp) ifs tt)
    (hk : ∀ (s : Shared) (H : Hp) (C : Addr) (cl : List (Str × Addr)) (fp : List Addr), PE (X.blk s H scope (compEnvC scope cl C X.env) fp) kx tk)
    (he : ∀ (s : Shared) (H : Hp) (C : Addr) (cl : List (Str × Addr)) (fp : List Addr), PE (X.blk s H scope (compEnvC scope cl C X.env) fp) vx tv) (hs : ∀ x, foldedSetIterable iter X.env x = pure x)
    (h : tTc X.prog X.w wi g tt tk tv (own.map (·.2)) σ H Q)
    (hRR : ∀ D C s' m H', Inv X pins σ H' s' → Q (.ref D) H' → s'.heap.Ns C m → FpOk X pins H' C → compPost (model X.prog X.w) X.A X.xe use Qf (.ref D) C (.ok .next) s') :
    wpAny (model X.prog X.w) X.A (comprehension (.DictComp kx vx [⟨tg, iter, ifs, 0⟩] scope pos) scope X.env pos' newDict false (eval iter X.env) use) Qf X.xe s := by
  have frN : ∀ y ∈ scope.names, y.2 = .free → ∃ c, X.env.cells.lookup y.1 = some c := fun y hy e => by
    rcases ok.free y hy e with k | k
    · exact I.ok.has _ (.inl k)
    · exact I.ok.has _ (.inr k)
  refine wpAny_comprehension_free (use := use) rfl hs (closure_ok frN) ok.kind (fun y hy e => by rw [ok.uniq y hy, e])
    (thn (hi.run pins s σ H _ I h) fun xv s1 hx => thn hx fun itv s2 h2 => ?_)
  obtain ⟨it, fp, tn, J, H2, e, I2, T, st2, f2, q⟩ := h2
  subst e
  refine wpAny_newObj_type (newEnv_comp ?_)
  generalize hD : s2.heap.objs.size = D
  have hDn : H2 D = none := I2.hok.fresh (Nat.le_of_eq hD)
  have sysD : (D == sysModules) = false := by
    have := I2.big
    rw [hD] at this
    exact beq_eq_false_iff_ne.mpr (Nat.ne_of_gt this)
  obtain ⟨W, ⟨m0, w0⟩, turn⟩ := q D (upd H2 D (exO D newD)) hDn (fun b hb => upd_ne hb) ⟨⟨_, upd_same, newD_ok sysD⟩, fun x hx => by cases hx⟩
  -- the new list
  generalize hs3 : ({ s2 with heap := s2.heap.push { cls := .type "dict", data := .dict #[] } } : Shared) = s3
  have J3 : Inv X pins σ (upd H2 D (exO D newD)) s3 := by
    rw [← hs3]
    refine I2.laid (t' := s2.toks) (fun b o e => Heap.get?_push_of_some _ e) (Nat.le_of_eq hD) ?_
    rw [← hD]
    exact exO_ok (Heap.get?_push_size _ rfl)
  have h3 : s3.heap = s2.heap.push { cls := .type "dict", data := .dict #[] } := by rw [← hs3]
  have sz : ∀ b ∈ fp, b < s2.heap.objs.size := fun b hb => by
    obtain ⟨o, e, _⟩ := T.obj _ _ st2 b hb
    exact Heap.lt_size e
  have g3 : ∀ b ∈ fp, FpOk X pins (upd H2 D (exO D newD)) b ∧ b < s3.heap.objs.size := fun b hb => by
    have hlt := sz b hb
    refine ⟨⟨?_, (f2 b hb).2⟩, by rw [h3, Heap.size_push]; exact Nat.lt_succ_of_lt hlt⟩
    rw [upd_ne (by rw [← hD]; exact Nat.ne_of_lt hlt)]
    exact (f2 b hb).1
  have u3 : tn 0 s3.heap := T.keep _ _ _ st2 fun b _ o e => by rw [h3]; exact Heap.get?_push_of_some _ e
  have J4 := block_start J3 ok hN g3
  have pg := hg s3 (upd H2 D (exO D newD)) s3.heap.objs.size (cellsFrom (s3.heap.objs.size + 1) scope.names (cloFrom X.env.cells scope.names [])) fp
  have pt := ht s3 (upd H2 D (exO D newD)) s3.heap.objs.size (cellsFrom (s3.heap.objs.size + 1) scope.names (cloFrom X.env.cells scope.names [])) fp
  have pk := hk s3 (upd H2 D (exO D newD)) s3.heap.objs.size (cellsFrom (s3.heap.objs.size + 1) scope.names (cloFrom X.env.cells scope.names [])) fp
  have pe := he s3 (upd H2 D (exO D newD)) s3.heap.objs.size (cellsFrom (s3.heap.objs.size + 1) scope.names (cloFrom X.env.cells scope.names [])) fp
  show codeAny _ _ (.compStart (.DictComp kx vx [⟨tg, iter, ifs, 0⟩] scope pos) 0 (.ref it) (.ref D) (compEnvC scope (cellsFrom (s3.heap.objs.size + 1) scope.names (cloFrom X.env.cells scope.names [])) s3.heap.objs.size X.env)) (compPost (model X.prog X.w) X.A X.xe use Qf (.ref D) s3.heap.objs.size) { s3 with heap := pushCells (s3.heap.push { cls := .type "dict", data := .dict #[] }) scope.names }
  have nfN : ∀ b ∈ fp, (upd H2 D (exO D newD)) b = none := fun b hb => (g3 b hb).1.1
  generalize hcN : compEnvC scope (cellsFrom (s3.heap.objs.size + 1) scope.names (cloFrom X.env.cells scope.names [])) s3.heap.objs.size X.env = ce at J4 pg pt pk pe ⊢
  have cN : ce.locals = s3.heap.objs.size := by subst hcN; rfl
  generalize hH3 : upd H2 D (exO D newD) = H3 at J3 J4 pg pt pk pe w0 nfN g3
  generalize hs4 : ({ s3 with heap := pushCells (s3.heap.push { cls := .type "dict", data := .dict #[] }) scope.names } : Shared) = r4 at J4 ⊢
  have u4 : tn 0 r4.heap := T.keep _ _ _ u3 fun b _ o e => by rw [← hs4]; exact pushCells_keeps _ _ _ _ (Heap.get?_push_of_some _ e)
  have stN : ∀ {σ' : L2.St} {H' : Hp} {s' : Shared}, Inv (X.blk s3 H3 scope ce fp) [] σ' H' s' → (∀ b ∈ fp, H' b = none) → ∀ b ∈ fp, FpOk (X.blk s3 H3 scope ce fp) [] H' b := fun {σ' H' s'} I' hn b hb =>
    ⟨hn b hb, (I'.ok.exf b hb).1, I'.ok.exfs b hb, .inl hb, fun x c e => (I'.ok.exf b hb).2 x c e, fun p hp => absurd (show p ∈ ([] : List (Addr × Obj)) ++ [] from hp) (by simp)⟩
  have loN : codeAny (model X.prog X.w) X.A (.compLoop (.DictComp kx vx [⟨tg, iter, ifs, 0⟩] scope pos) 0 (.ref it) (.ref D) ce) (compPost (model X.prog X.w) X.A X.xe use Qf (.ref D) s3.heap.objs.size) r4 := by
    refine compLoop_anyD (fun n s' => ∃ i H', Inv (X.blk s3 H3 scope ce fp) [] (wipe σ (own.map (·.2))) H' s' ∧ tn i s'.heap ∧ (∀ b ∈ fp, H' b = none) ∧ W i n H') ?_ m0 ⟨0, H3, J4, u4, nfN, w0⟩
    rintro n s5 ⟨i, H5, I5, st5, n5, w5⟩
    rcases turn i n H5 w5 with ⟨stop, qq⟩ | ⟨go, Nx, hNx, step⟩
    · have td := T.done (X.blk s3 H3 scope ce fp) rfl rfl rfl hc i [] s5 _ H5 (fun _ _ => False) I5 (stN I5 n5) st5 stop
      refine thnF td fun r s6 ⟨hr, I6⟩ => ?_
      subst hr
      -- back in the def's context
      have I7 : Inv X pins σ H5 s6 := J3.call' (ch := fp) I6.os I6.base I6.hok I6.bare fun b hb => ⟨(g3 b hb).1.2.2.2.1, (g3 b hb).1.2.1, (g3 b hb).1.2.2.2.2.1, (g3 b hb).1.2.2.2.2.2⟩
      have nC : H5 s3.heap.objs.size = none := by
        have z : H5 ce.locals = none := I6.free
        rw [cN] at z
        exact z
      obtain ⟨m, hn, _⟩ := I6.loc
      have hn : s6.heap.Ns ce.locals m := hn
      rw [cN] at hn
      exact hRR D s3.heap.objs.size s6 m H5 I7 qq hn (J3.fpOk (Nat.le_refl _) nC)
    · have ti := T.item (X.blk s3 H3 scope ce fp) rfl rfl rfl hc i [] s5 _ H5 (fun _ _ => False) I5 (stN I5 n5) st5 go
      refine thnF ti fun r s6 ⟨u, hr, h6⟩ => ?_
      subst hr
      refine thnF h6 fun _ s7 ⟨x, H7, I7, r7, y7, st7, n7⟩ => ?_
      have I7' := I7.pinned (stN I7 n7) (T.obj _ _ st7)
      refine thnF (pg.run _ s7 _ H7 x u _ I7' r7 (step x H7 y7)) fun _ s8 ⟨σ8, H8, I8, hw8, q8⟩ => ?_
      refine thnF (pt.run _ s8 σ8 H8 _ I8 q8) fun b s9 ⟨H9, I9, q9⟩ => ?_
      -- the turn's end
      have fiN : ∀ {s' : Shared} {H' : Hp}, Inv (X.blk s3 H3 scope ce fp) ([] ++ pinsAt fp s7.heap) σ8 H' s' → Nx H' → ∃ m, m < n ∧ ∃ i H', Inv (X.blk s3 H3 scope ce fp) [] (wipe σ (own.map (·.2))) H' s' ∧ tn i s'.heap ∧ (∀ b ∈ fp, H' b = none) ∧ W i m H' := fun {s' H'} I' nx => by
        obtain ⟨m', hm, w'⟩ := hNx H' nx
        have pin' : ∀ b ∈ fp, ∀ o, s7.heap.get? b = some o → s'.heap.get? b = some o ∧ H' b = none := fun b hb o e =>
          let z := I'.pin (b, o) (List.mem_append_right _ (List.mem_append_right _ (mem_pinsAt hb e)))
          ⟨z.1, z.2.1⟩
        have hl : (wipe σ (own.map (·.2))).length = σ8.length := by rw [← hw8, wipe_length]
        refine ⟨m', hm, i + 1, H', (I'.unpinned (pins := [])).weak hl (fun j v e => ?_), T.keep _ _ _ st7 fun b hb o e => (pin' b hb o e).1, fun b hb => ?_, w'⟩
        · rw [← hw8] at e
          exact (wipe_some e).1
        · obtain ⟨o, e, _⟩ := T.obj _ _ st7 b hb
          exact (pin' b hb o e).2
      cases b with
      | false =>
        simp only [Bool.false_eq_true, if_false] at q9 ⊢
        exact fiN I9 q9
      | true =>
        simp only [if_true] at q9 ⊢
        refine thnF (pk.run _ s9 σ8 H9 _ I9 q9) fun z s10 ⟨yk, H10, I10, r10, q10⟩ => ?_
        refine thnF (pe.run _ s10 σ8 H10 _ I10 q10) fun z2 s11 ⟨yv, H11, I11, r11, kb, kk, kx, ek, T11, hb11, hz11, nx⟩ => ?_
        subst ek
        obtain rfl : z = Value.ref kb := r10
        exact td_dictSet (X := X.blk s3 H3 scope ce fp) hu I11 T11 hb11 hz11 r11 fun H12 s12 n12 I12 => fiN I12 (nx H12 n12)
  exact codeAny_compStart_dict loN (T.self X.A 0 _ _ _ u4 loN)
theorem pe_tc {kx vx tg iter : Expr} {ifs : List Expr} {scope : Scope} {own : List (Str × Nat)} {pos : Pos} {wi : TI} {g : TG} {tt : TT} {tk tv : TE} (hu : X.A.units + 2 < cLine) (hc : X.calm = true) (hN : X.N.Nodup) (hi : PI X tg iter wi) (ok : BlkOk X.N X.env.scope scope own)
    (hg : ∀ (s : Shared) (H : Hp) (C : Addr) (cl : List (Str × Addr)) (fp : List Addr), PG (X.blk s H scope (compEnvC scope cl C X.env) fp) tg g) (ht : ∀ (s : Shared) (H : Hp) (C : Addr) (cl : List (Str × Addr)) (fp : List Addr), PTs (X.blk s H scope (compEnvC scope cl C X.env) fp) ifs tt)
    (hk : ∀ (s : Shared) (H : Hp) (C : Addr) (cl : List (Str × Addr)) (fp : List Addr), PE (X.blk s H scope (compEnvC scope cl C X.env) fp) kx tk)
    (he : ∀ (s : Shared) (H : Hp) (C : Addr) (cl : List (Str × Addr)) (fp : List Addr), PE (X.blk s H scope (compEnvC scope cl C X.env) fp) vx tv) (hs : ∀ x, foldedSetIterable iter X.env x = pure x := by intro _; rfl) :
    PE X (.DictComp kx vx [⟨tg, iter, ifs, 0⟩] scope pos) (tTc X.prog X.w wi g tt tk tv (own.map (·.2))) := by
  refine ⟨fun pins s σ H Q I h => ?_⟩
  rw [arm_eval_DictComp]
  refine tc_core hu hc hN I hi ok hg ht hk he hs h fun D C s' m H' I' q hn f => ⟨m, hn, fun h'' sb => ?_⟩
  obtain ⟨f0, f1, f2, f3, f4, f5⟩ := f
  exact ⟨.ref D, H', I'.turned (t' := s'.toks) (fun b o hb e => (sb.2 b hb).trans e) f0 f1 f3 f4 f5, rfl, q⟩

/-- by a walk -/
theorem tc_it {P : Program} {w : World} {J : It} {n : Nat} {G : Hp → Prop} {Y : Nat → Hp → V → Hp → Prop} (wk : Walk J n G Y) {g : TG} {tt : TT} {tk tv : TE} {vs : List Nat} {σ : L2.St} {Hn : Hp} {D : Addr} {Qd : Hp → Prop} (Pv : Nat → Hp → Prop) (h0 : Pv 0 Hn) (hG : ∀ i H, i ≤ n → Pv i H → G H)
    (hs : ∀ i x H H', i < n → Pv i H → Y i H x H' → g x (wipe σ vs) H' fun σ2 H2 => wipe σ2 vs = wipe σ vs ∧ tt σ2 H2 fun b H3 =>
      if b = true then tk σ2 H3 fun y H4 => tv σ2 H4 fun z H5 => ∃ c k xs, y = .ref c ∧ TD P w H5 D xs ∧ H5 c = some (.tup (k.map lV)) ∧ xs.length < sizeLine ∧ ∀ H6, TDn P w H5 H6 D (tst xs k c z) → Pv (i + 1) H6 else Pv (i + 1) H3) (hd : ∀ H, Pv n H → Qd H) :
    ∃ W : Nat → Nat → Hp → Prop, (∃ m, W 0 m Hn) ∧ ∀ i m H, W i m H →
      (J.stop i H ∧ Qd H) ∨ (J.go i H ∧ ∃ Nx : Hp → Prop, (∀ H', Nx H' → ∃ m', m' < m ∧ W (i + 1) m' H') ∧ ∀ x H', J.yld i H x H' → g x (wipe σ vs) H' fun σ2 H2 => wipe σ2 vs = wipe σ vs ∧ tt σ2 H2 fun b H3 =>
        if b = true then tk σ2 H3 fun y H4 => tv σ2 H4 fun z H5 => ∃ c k xs, y = .ref c ∧ TD P w H5 D xs ∧ H5 c = some (.tup (k.map lV)) ∧ xs.length < sizeLine ∧ ∀ H6, TDn P w H5 H6 D (tst xs k c z) → Nx H6 else Nx H3) := by
  refine ⟨fun i m H => m = n - i ∧ i ≤ n ∧ Pv i H, ⟨n, by simp, Nat.zero_le _, h0⟩, ?_⟩
  rintro i m H ⟨rfl, hi, p⟩
  have q := hG i H hi p
  by_cases hlt : i < n
  · exact .inr ⟨wk.goes i H hlt q, Pv (i + 1), fun H' p' => ⟨n - (i + 1), by omega, rfl, hlt, p'⟩, fun x H' y => hs i x H H' hlt p (wk.yields i H x H' hlt q y)⟩
  · have e : i = n := by omega
    subst e
    exact .inl ⟨wk.stops H q, hd H p⟩
/-- the same for keys that are ints or texts -/
theorem dc_it {J : It} {n : Nat} {G : Hp → Prop} {Y : Nat → Hp → V → Hp → Prop} (wk : Walk J n G Y) {g : TG} {tt : TT} {tk tv : TE} {vs : List Nat} {σ : L2.St} {Hn : Hp} {D : Addr} {Qd : Hp → Prop} (Pv : Nat → Hp → Prop) (h0 : Pv 0 Hn) (hG : ∀ i H, i ≤ n → Pv i H → G H)
    (hs : ∀ i x H H', i < n → Pv i H → Y i H x H' → g x (wipe σ vs) H' fun σ2 H2 => wipe σ2 vs = wipe σ vs ∧ tt σ2 H2 fun b H3 =>
      if b = true then tk σ2 H3 fun y H4 => tv σ2 H4 fun z H5 => ∃ kvs k, y = kV k ∧ H5 D = some (.dK kvs) ∧ kvs.length < sizeLine ∧ Pv (i + 1) (upd H5 D (.dK (putK kvs k z))) else Pv (i + 1) H3) (hd : ∀ H, Pv n H → Qd H) :
    ∃ W : Nat → Nat → Hp → Prop, (∃ m, W 0 m Hn) ∧ ∀ i m H, W i m H →
      (J.stop i H ∧ Qd H) ∨ (J.go i H ∧ ∃ Nx : Hp → Prop, (∀ H', Nx H' → ∃ m', m' < m ∧ W (i + 1) m' H') ∧ ∀ x H', J.yld i H x H' → g x (wipe σ vs) H' fun σ2 H2 => wipe σ2 vs = wipe σ vs ∧ tt σ2 H2 fun b H3 =>
        if b = true then tk σ2 H3 fun y H4 => tv σ2 H4 fun z H5 => ∃ kvs k, y = kV k ∧ H5 D = some (.dK kvs) ∧ kvs.length < sizeLine ∧ Nx (upd H5 D (.dK (putK kvs k z))) else Nx H3) := by
  refine ⟨fun i m H => m = n - i ∧ i ≤ n ∧ Pv i H, ⟨n, by simp, Nat.zero_le _, h0⟩, ?_⟩
  rintro i m H ⟨rfl, hi, p⟩
  have q := hG i H hi p
  by_cases hlt : i < n
  · exact .inr ⟨wk.goes i H hlt q, Pv (i + 1), fun H' p' => ⟨n - (i + 1), by omega, rfl, hlt, p'⟩, fun x H' y => hs i x H H' hlt p (wk.yields i H x H' hlt q y)⟩
  · have e : i = n := by omega
    subst e
    exact .inl ⟨wk.stops H q, hd H p⟩
end
end Hs
set_option Elab.async false
set_option linter.all false
set_option maxRecDepth 100000
set_option maxHeartbeats 4000000
/-! dict(zip(tuple, tuple)); enumerate(tuple); sum, any, extend of tuples; repr(bool); max and min with default=. -/
namespace PySem
open Sem (wp)
open PySem.W (KdxIt kdx_alive)
/-! ### zip over two tuples, as dict() takes it: from the second turn on its last tuple is still out -/
section
variable {prog : Program} {w : World} {A : Around} {E : Value → Shared → Prop} {s : Shared} {z TI TO T i1 i2 l1 l2 : Addr} {f : Bool} {oT : Obj} {xs ys : Array Value}
/-- an end, told by StopIteration -/
def Ended (Q : Option Value → Shared → Prop) : Value → Shared → Prop := fun e s => s.TypeIs e "StopIteration" ∧ Q none s
/-- the two iterators asked in turn, and a tuple made of what they give -/
def Asks (prog : Program) (w : World) (A : Around) (i1 i2 : Addr) (Q : Value → Shared → Prop) (E : Value → Shared → Prop) (s : Shared) : Prop :=
  wpAny (model prog w) A (Builtin.SmallTypes.nextOf (.ref i1)) (fun x s1 => wpAny (model prog w) A (Builtin.SmallTypes.nextOf (.ref i2))
    (fun y s2 => Q (.ref s2.heap.objs.size) { s2 with heap := s2.heap.push { cls := .type "tuple", data := .seq #[x, y] } }) E s1) E s
/-- whatever its iterators are, a zip whose tuple is out asks them -/
theorem zipOut_asks {Q : Value → Shared → Prop} (zH : IsZipHeld s.heap z TI TO T f) (tH : s.heap.get? T = some oT) (iH : IsPair s.heap TI (.ref i1) (.ref i2))
    (h : ∀ g, IsZipHeld g z TI TO T true → Heap.SameBut z s.heap g → Asks prog w A i1 i2 Q E { s with heap := g }) :
    wpAny (model prog w) A (Builtin.«zip.__next__» ⟨[.ref z], []⟩) (fun fin s' => ∃ v, fin = .done (.ret v) ∧ Q v s') E s := by
  show wpAny _ _ (field (.ref z) 2 >>= _) _ _ s
  refine wpAny_bind (wpAny_field zH rfl (x := .bool false) rfl ?_)
  show wpAny _ _ (field (.ref z) 3 >>= _) _ _ s
  refine wpAny_bind (wpAny_field zH rfl (x := .ref TI) rfl (wpAny_bind (wpAny_seqItems iH rfl ?_)))
  show wpAny _ _ (Builtin.SmallTypes.ownedTupleIsFree (.ref z) >>= _) _ _ s
  refine wpAny_bind (wpAny_tupleHeld_zip zH tH fun g gz gk => ?_)
  rw [if_neg Bool.false_ne_true]
  refine wpAny_bind ?_
  rw [← Array.forIn_toList, List.forIn_cons]
  refine wpAny_bind (wpAny_bind (wpAny_holding (wpAny_bind (wpAny_mono (h g gz gk) (fun x s1 h1 => wpAny_pure (wpAny_pure ?_)) fun _ _ q => q))))
  simp only [List.forIn_cons, List.forIn_nil]
  refine wpAny_bind (wpAny_bind (wpAny_holding (wpAny_bind (wpAny_mono h1 (fun y s2 h2 => wpAny_pure (wpAny_pure (wpAny_pure ?_))) fun _ _ q => q))))
  show wpAny _ _ (newTuple [x, y] >>= _) _ _ _
  exact wpAny_bind (wpAny_newTuple (wpAny_pure ⟨_, rfl, h2⟩))
theorem zipOut_pyNext {Q : Option Value → Shared → Prop} (zH : IsZipHeld s.heap z TI TO T f) (tH : s.heap.get? T = some oT) (iH : IsPair s.heap TI (.ref i1) (.ref i2))
    (h : ∀ g, IsZipHeld g z TI TO T true → Heap.SameBut z s.heap g → Asks prog w A.in1 i1 i2 (fun v => Q (some v)) (Ended Q) { s with heap := g }) : wpAny (model prog w) A (pyNext (.ref z)) Q E s := by
  have ty : s.TypeIs (.ref z) "zip" := ⟨_, zH, rfl⟩
  unfold pyNext
  refine wpAny_bind (wpAny_attempt (wpAny_callSpecial?_slot ty F.slot_zip_next (wpAny_call_entry F.slot_zip_next ty F.entry_zip_next (wpAny_mono (zipOut_asks (E := Ended Q) zH tH iH h)
    (fun fin s' ⟨v, e, q⟩ => ⟨v, e, wpAny_pure q⟩) fun e s' q => wpAny_bind (wpAny_isInstance (b := true) q.1 isSubtype_stop (wpAny_pure q.2))) (F.args_zip_next_1 _))))
/-- over two tuples -/
theorem zipOut_tuples {k1 k2 : Nat} {Q : Option Value → Shared → Prop} (hh : A.handled = none) (D : ZipApart z TI TO i1 i2 l1 l2) (zH : IsZipHeld s.heap z TI TO T f) (tH : s.heap.get? T = some oT) (iH : IsPair s.heap TI (.ref i1) (.ref i2))
    (iA : s.heap.IsTupleIter i1 l1 k1) (iB : s.heap.IsTupleIter i2 l2 k2) (lA : s.heap.IsTuple l1 xs) (lB : s.heap.IsTuple l2 ys)
    (hi : ∀ x y g, xs[k1]? = some x → ys[k2]? = some y → IsZipHeld g z TI TO T true → g.IsTupleIter i1 l1 (k1 + 1) → g.IsTupleIter i2 l2 (k2 + 1) → IsPair g s.heap.objs.size x y →
      (∀ c o, c ∉ [z, i1, i2] → s.heap.get? c = some o → g.get? c = some o) → Q (some (.ref s.heap.objs.size)) { s with heap := g })
    (hd : xs[k1]? = none ∨ ys[k2]? = none → ∀ g, (∀ c o, c ∉ [z, i1, i2] → s.heap.get? c = some o → g.get? c = some o) → Q none { s with heap := g }) :
    wpAny (model prog w) A (pyNext (.ref z)) Q E s := by
  refine zipOut_pyNext zH tH iH fun g gz gk => ?_
  have iA1 := iA.extBut gk.extBut D.i1z
  have lA1 := lA.extBut gk.extBut D.l1z
  cases hx : xs[k1]? with
  | none => exact RZ.nextOf_tuple_end (s := { s with heap := g }) hh iA1 lA1 hx fun g2 e kE he => ⟨he, hd (.inl hx) g2 fun c o hc q => kE _ _ (fun a => hc (by simp [a])) (gk.extBut _ _ (fun a => hc (by simp [a])) q)⟩
  | some x =>
    refine RZ.nextOf_tuple_item (s := { s with heap := g }) iA1 lA1 hx fun g2 nA kA => ?_
    have iB2 := (iB.extBut gk.extBut D.i2z).extBut kA.extBut D.i12.symm
    have lB2 := (lB.extBut gk.extBut D.l2z).extBut kA.extBut D.l2i1
    cases hy : ys[k2]? with
    | none => exact RZ.nextOf_tuple_end (s := { s with heap := g2 }) hh iB2 lB2 hy fun g3 e kE he => ⟨he, hd (.inr hy) g3 fun c o hc q =>
        kE _ _ (fun a => hc (by simp [a])) (kA.extBut _ _ (fun a => hc (by simp [a])) (gk.extBut _ _ (fun a => hc (by simp [a])) q))⟩
    | some y =>
      refine RZ.nextOf_tuple_item (s := { s with heap := g2 }) iB2 lB2 hy fun g3 nB kB => ?_
      have size : g3.objs.size = s.heap.objs.size := (kB.1.trans kA.1).trans gk.1
      have pushed : ∀ {c o}, g3.get? c = some o → (g3.push { cls := .type "tuple", data := .seq #[x, y] }).get? c = some o := fun q => Heap.get?_push_of_some _ q
      show Q (some (.ref g3.objs.size)) { s with heap := g3.push { cls := .type "tuple", data := .seq #[x, y] } }
      rw [size]
      exact hi x y _ hx hy (pushed (kB.extBut _ _ D.i2z.symm (kA.extBut _ _ D.i1z.symm gz))) ((nA.extBut kB.extBut D.i12).at fun _ q => pushed q) (nB.at fun _ q => pushed q)
        (size ▸ Heap.get?_push_size g3 rfl) fun c o hc q => pushed (kB.extBut _ _ (fun a => hc (by simp [a])) (kA.extBut _ _ (fun a => hc (by simp [a])) (gk.extBut _ _ (fun a => hc (by simp [a])) q)))
/-- what every turn keeps: the two iterators at i, over the two tuples -/
def ZipAt (TI i1 i2 l1 l2 : Addr) (xs ys : Array Value) (i : Nat) (h : Heap) : Prop := IsPair h TI (.ref i1) (.ref i2) ∧ (h.IsTupleIter i1 l1 i ∧ h.IsTupleIter i2 l2 i) ∧ h.IsTuple l1 xs ∧ h.IsTuple l2 ys
theorem ZipAt.to {h g : Heap} {i : Nat} (Z : ZipAt TI i1 i2 l1 l2 xs ys i h) (k : ∀ b ∈ [TI, i1, i2, l1, l2], ∀ o, h.get? b = some o → g.get? b = some o) : ZipAt TI i1 i2 l1 l2 xs ys i g :=
  ⟨k _ (by simp) _ Z.1, ⟨Z.2.1.1.at (k _ (by simp)), Z.2.1.2.at (k _ (by simp))⟩, Z.2.2.1.at (k _ (by simp)), Z.2.2.2.at (k _ (by simp))⟩
theorem ZipAt.next {h g : Heap} {i : Nat} (Z : ZipAt TI i1 i2 l1 l2 xs ys i h) (iA : g.IsTupleIter i1 l1 (i + 1)) (iB : g.IsTupleIter i2 l2 (i + 1)) (k : ∀ b ∈ [TI, l1, l2], ∀ o, h.get? b = some o → g.get? b = some o) :
    ZipAt TI i1 i2 l1 l2 xs ys (i + 1) g := ⟨k _ (by simp) _ Z.1, ⟨iA, iB⟩, Z.2.2.1.at (k _ (by simp)), Z.2.2.2.at (k _ (by simp))⟩
/-- the zip itself, before d is made: its tuple is its own, or out somewhere else than where is written -/
def ZipIs (z TI TO i1 i2 d : Addr) (h : Heap) : Prop := (IsZip h z TI TO .none ∧ ∃ a b, IsPair h TO a b) ∨ ∃ T f oT, IsZipHeld h z TI TO T f ∧ h.get? T = some oT ∧ T ∉ [z, i1, i2, d]
theorem PairArg.zipT (z TI TO i1 i2 l1 l2 : Addr) (D : ZipApart z TI TO i1 i2 l1 l2) (xs ys : Array Value) : PairArg prog w "zip" z [z, TI, TO, i1, i2, l1, l2] [z, TO, i1, i2] (min xs.size ys.size)
    (fun i k v => xs[i]? = some k ∧ ys[i]? = some v) (fun h => (IsZip h z TI TO .none ∧ ∃ a b, IsPair h TO a b) ∧ ZipAt TI i1 i2 l1 l2 xs ys 0 h) where
  type := fun s ok => ⟨_, ok.1.1, rfl⟩
  notDict := by decide
  keep := fun h g ok k => ⟨⟨k _ _ ok.1.1, let ⟨a, b, q⟩ := ok.1.2; ⟨a, b, k _ _ q⟩⟩, ok.2.to fun b _ o q => k b o q⟩
  there := fun h ok b hb => by
    obtain ⟨⟨q1, _, _, q2⟩, q3, ⟨⟨_, q4, _⟩, _, q5, _⟩, ⟨_, q6, _⟩, _, q7, _⟩ := ok
    have all : ∀ c ∈ [z, TI, TO, i1, i2, l1, l2], ∃ o, h.get? c = some o :=
      List.forall_mem_cons.mpr ⟨⟨_, q1⟩, List.forall_mem_cons.mpr ⟨⟨_, q3⟩, List.forall_mem_cons.mpr ⟨⟨_, q2⟩, List.forall_mem_cons.mpr ⟨⟨_, q4⟩, List.forall_mem_cons.mpr ⟨⟨_, q5⟩,
        List.forall_mem_cons.mpr ⟨⟨_, q6⟩, List.forall_mem_cons.mpr ⟨⟨_, q7⟩, fun _ q => nomatch q⟩⟩⟩⟩⟩⟩⟩
    exact all b hb
  sub := by simp
  noKeys := fun A s Q E hA ok h => getAttrOr_miss_zip ok.1.1 rfl rfl rfl zip_no_keys (by decide +kernel) hA h
  iter := fun A s d Q E hA ok hd fd h => by
    have nd : ∀ b ∈ [z, TI, TO, i1, i2, l1, l2], b ≠ d := fun b hb e => fd (e ▸ hb)
    refine wpAny_pyIter_zip ok.1.1 (h z [z, TO, i1, i2] (fun i g => ZipAt TI i1 i2 l1 l2 xs ys i g ∧ ZipIs z TI TO i1 i2 d g) s.heap s.toks ⟨?_, ?_, ?_, ?_⟩ ⟨ok.2, .inl ok.1⟩ (fun _ _ q => q) fun b hb => .inl hb)
    · exact fun q => fd (by simp at q ⊢; grind)
    · refine fun i g g2 st k => ⟨st.1.to fun b hb o q => k b o (nd b (by simp at hb ⊢; grind)) q, ?_⟩
      rcases st.2 with ⟨q1, a, b, q2⟩ | ⟨T, f, oT, q1, q2, q3⟩
      · exact .inl ⟨k _ _ (nd z (by simp)) q1, a, b, k _ _ (nd TO (by simp)) q2⟩
      · exact .inr ⟨T, f, oT, k _ _ (nd z (by simp)) q1, k _ _ (fun e => q3 (by simp [e])) q2, q3⟩
    · intro i t R F hi st hds hR
      have old : ∀ {c o}, t.heap.get? c = some o → t.heap.objs.size ≠ c := fun q => Nat.ne_of_gt (Heap.lt_size q)
      obtain ⟨oz, zq⟩ : ∃ o, t.heap.get? z = some o := by rcases st.2 with ⟨q, _⟩ | ⟨_, _, _, q, _⟩ <;> exact ⟨_, q⟩
      have away : t.heap.objs.size ∉ [z, i1, i2, d] := by
        obtain ⟨_, qa, _⟩ := st.1.2.1.1
        obtain ⟨_, qb, _⟩ := st.1.2.1.2
        simp only [List.mem_cons, List.not_mem_nil, or_false, not_or]
        exact ⟨old zq, old qa, old qb, Nat.ne_of_gt hds⟩
      have ex : xs[i]? = some xs[i] := Array.getElem?_eq_getElem (by omega)
      have ey : ys[i]? = some ys[i] := Array.getElem?_eq_getElem (by omega)
      rcases st.2 with ⟨q1, a, b, q2⟩ | ⟨T, f, oT, q1, q2, q3⟩
      · refine RZ.pyNext_zipT_item D q1 st.1.1 q2 st.1.2.1.1 st.1.2.1.2 st.1.2.2.1 st.1.2.2.2 ex ey fun g g1 _ g3 g4 g5 _ k => ?_
        refine hR _ _ _ g t.toks ⟨ex, ey⟩ (.inl ⟨_, g5, rfl, _, rfl⟩) ⟨st.1.next g3 g4 ?_, .inr ⟨_, false, _, g1, g5, away⟩⟩ fun c o hc q => ?_
        · simp only [List.forall_mem_cons]
          exact ⟨fun o => k _ o D.TIz D.TITO D.TIi1 D.TIi2, fun o => k _ o D.l1z D.l1TO D.l1i1 D.l1i2, fun o => k _ o D.l2z D.l2TO D.l2i1 D.l2i2, fun _ q => nomatch q⟩
        · simp only [List.mem_cons, List.not_mem_nil, or_false, not_or] at hc
          exact k c o hc.1 hc.2.1 hc.2.2.1 hc.2.2.2 q
      · refine zipOut_tuples hA D q1 q2 st.1.1 st.1.2.1.1 st.1.2.1.2 st.1.2.2.1 st.1.2.2.2 (fun x y g e1 e2 g1 g3 g4 g5 k => ?_) fun e => ?_
        · refine hR _ _ _ g t.toks ⟨e1, e2⟩ (.inl ⟨_, g5, rfl, _, rfl⟩) ⟨st.1.next g3 g4 ?_, .inr ⟨T, true, oT, g1, k _ _ (fun m => q3 (by simp at m ⊢; grind)) q2, q3⟩⟩ fun c o hc q => k c o (fun m => hc (by simp at m ⊢; grind)) q
          simp only [List.forall_mem_cons]
          exact ⟨fun o => k _ o (by simp [D.TIz, D.TIi1, D.TIi2]), fun o => k _ o (by simp [D.l1z, D.l1i1, D.l1i2]), fun o => k _ o (by simp [D.l2z, D.l2i1, D.l2i2]), fun _ q => nomatch q⟩
        · rw [ex, ey] at e; simp at e
    · intro t R F st hR
      have over : xs[min xs.size ys.size]? = none ∨ ys[min xs.size ys.size]? = none := by
        rw [Array.getElem?_eq_none_iff, Array.getElem?_eq_none_iff]; omega
      rcases st.2 with ⟨q1, a, b, q2⟩ | ⟨T, f, oT, q1, q2, q3⟩
      · refine RZ.pyNext_zipT_end hA D q1 st.1.1 q2 st.1.2.1.1 st.1.2.1.2 st.1.2.2.1 st.1.2.2.2 over fun g k => hR g t.toks fun c o hc q => ?_
        simp only [List.mem_cons, List.not_mem_nil, or_false, not_or] at hc
        exact k c o hc.1 hc.2.1 hc.2.2.1 hc.2.2.2 q
      · refine zipOut_tuples hA D q1 q2 st.1.1 st.1.2.1.1 st.1.2.1.2 st.1.2.2.1 st.1.2.2.2 (fun x y g e1 e2 => ?_) fun _ g k => hR g t.toks fun c o hc q => k c o (fun m => hc (by simp at m ⊢; grind)) q
        rcases over with e | e
        · rw [e] at e1; cases e1
        · rw [e] at e2; cases e2
end
open AutoSeq1 (wpAny_loadPart')
set_option maxHeartbeats 1000000 in
theorem hs_enum_newT (l : Addr) (items : Array Value) :
    Meets (Builtin.«enumerate.__new__» ⟨[.type "enumerate", .ref l], []⟩) (fun _ R s => s.heap.IsTuple l items ∧
      R (.ok (.ret (.ref (s.heap.push { cls := .type "tuple_iterator", data := .fields #[.ref l, .int 0 0] }).objs.size)))
        { s with heap := (s.heap.push { cls := .type "tuple_iterator", data := .fields #[.ref l, .int 0 0] }).push { cls := .type "enumerate", data := .fields #[.none, .bool false, .ref s.heap.objs.size, rawInt 0, .none, .none] } }) :=
  .of_wp fun prog w A R s h => by
    obtain ⟨hp, g, d, tk, os⟩ := s; obtain ⟨hl, h⟩ := h
    have hsub := sub_enumerate
    have hL : Heap.IsTuple (Shared.heap ⟨hp, g, d, tk, os⟩) l items := hl
    wp_walk using wpAny_pyIter_tuple hL
    refine wpAny_stack_any fun st => wpAny_pure ?_
    split
    · rename_i c _ _ _ _ _
      cases (c == Value.type "enumerate")
      · wp_walk using wpAny_pyIter_tuple hL
        exact ⟨_, rfl, h⟩
      · wp_walk using wpAny_pyIter_tuple hL
        exact ⟨_, rfl, h⟩
    · wp_walk using wpAny_pyIter_tuple hL
      exact ⟨_, rfl, h⟩
theorem hs_enum_tuple {prog : Program} {w : World} {A : Around} {E : Value → Shared → Prop} {s : Shared} {l : Addr} {items : Array Value} {Q : Value → Shared → Prop} (hL : s.heap.IsTuple l items)
    (h : ∀ h', IsEnum h' (s.heap.objs.size + 1) s.heap.objs.size 0 .none → h'.IsTupleIter s.heap.objs.size l 0 → h'.objs.size = s.heap.objs.size + 2 →
      (∀ b o, s.heap.get? b = some o → h'.get? b = some o) → Q (.ref (s.heap.objs.size + 1)) { s with heap := h' }) :
    wpAny (model prog w) A (call (.type "enumerate") [.ref l]) Q E s := by
  refine callType_new F.called_enumerate (by decide) (F.typeCall_enumerate_1 _) (F.newCall_enumerate_1 _) (fun obj => F.args_object_init_2 obj _) F.entry_enumerate_new
    (hs_enum_newT l items) ⟨hL, ?_⟩
  have hz : (s.heap.push { cls := .type "tuple_iterator", data := .fields #[.ref l, .int 0 0] }).objs.size = s.heap.objs.size + 1 := Heap.size_push ..
  show _ ∧ _
  rw [hz]
  have he : IsEnum ((s.heap.push { cls := .type "tuple_iterator", data := .fields #[.ref l, .int 0 0] }).push
      { cls := .type "enumerate", data := .fields #[.none, .bool false, .ref s.heap.objs.size, rawInt 0, .none, .none] }) (s.heap.objs.size + 1) s.heap.objs.size 0 .none := by
    have := Heap.get?_push_size (s.heap.push { cls := .type "tuple_iterator", data := .fields #[.ref l, .int 0 0] }) (o := { cls := .type "enumerate", data := .fields #[.none, .bool false, .ref s.heap.objs.size, rawInt 0, .none, .none] }) rfl
    rw [hz] at this; exact this
  refine ⟨⟨_, he, rfl⟩, h _ he ⟨_, Heap.get?_push_of_some _ (Heap.get?_push_size _ rfl), rfl, rfl⟩ (by rw [Heap.size_push, hz]) fun b o x => Heap.get?_push_of_some _ (Heap.get?_push_of_some _ x)⟩
end PySem
namespace Hs
open PySem PySem.Spec PyProof.Rows L2
/-! ### dict(zip(..)) -/
theorem merged_nodup {κ : Type} [DecidableEq κ] : ∀ (more acc : List (κ × Value)), ((acc ++ more).map (·.1)).Nodup → merged acc more = acc ++ more
  | [], acc, _ => by unfold merged; simp
  | p :: more, acc, h => by
    have e : stored acc p.1 p.2 = acc ++ [p] := by
      unfold stored
      have : acc.any (fun q => decide (q.1 = p.1)) = false := by
        rw [List.any_eq_false]
        intro q hq
        rw [List.map_append, List.map_cons] at h
        have := (List.nodup_append.mp h).2.2 q.1 (List.mem_map_of_mem hq) p.1 (List.mem_cons_self ..)
        simpa using this
      first | (rw [if_neg (by rw [this]; decide)]) | (simp [this])
    show merged (stored acc p.1 p.2) more = _
    rw [e, merged_nodup more (acc ++ [p]) (by simpa using h)]
    simp
section
variable {X : Cx}
def rDZip (K : PySem.W.Frag) : List V → Hp → VK → Prop := fun vs H Q => ∃ (a b : Addr) (ks : List Str) (xs : List V), vs = [.ref a, .ref b] ∧ SqT K H a (ks.map V.str) ∧ SqT K H b xs ∧ ks.length = xs.length ∧ ks.Nodup ∧ ks.length ≤ 1000 ∧
  ∀ d, H d = none → Q (.ref d) (upd H d (.dK ((ks.map (Sum.inr : Str → Key)).zip xs)))
def tDZip (K : PySem.W.Frag) (t : TA) : TE := fun σ H Q => t σ H fun vs H1 => rDZip K vs H1 Q
theorem pe_dzip {e e2 : Expr} {t : TA} {p p2 pos pos2 : Pos} (hc : X.calm = true) (hg : Gl X "dict") (hm : X.mg "dict" = none) (hg2 : Gl X "zip") (hm2 : X.mg "zip" = none) (ha : PA X [e, e2] t)
    (hs : starEach [.Call (.Name "zip" p2) [e, e2] [] pos2] X.env = (false, eval (.Call (.Name "zip" p2) [e, e2] [] pos2) X.env) :: starEach [] X.env := by rfl)
    (hs2 : starEach [e, e2] X.env = (false, eval e X.env) :: starEach [e2] X.env := by rfl) (hpl : (backTo pos2 (starEach [e2] X.env)).any (·.1) = false := by rfl) :
    PE X (.Call (.Name "dict" p) [.Call (.Name "zip" p2) [e, e2] [] pos2] [] pos) (tDZip X.K t) := by
  refine ⟨fun pins s σ H Q I h => ?_⟩
  refine wpAny_Call_Name_kw (ld_blt (u := .type "dict") I hg hm (by decide +kernel) ?_ (by decide) (by decide))
  refine PyProof.Rows.callWith_type1 ?_ hs rfl
  rw [hs]
  show wpAny _ _ (spliced ((false, eval (.Call (.Name "zip" p2) [e, e2] [] pos2) X.env) :: backTo pos (starEach [] X.env))) _ _ s
  refine Calls.spliced_cons ?_
  refine Call_ (ld_blt I hg2 hm2 PyProof.Rows.boot_zip (PyProof.Rows.callWith_type1 (thn (ha.run pos2 pins s σ H _ I h) fun us s1 ⟨vs, H1, I1, r1, a, b, ks, xs, ev, h1, h2, hl, hn, hz, q⟩ => ?_) hs2 hpl))
  subst ev
  obtain ⟨u1, u2, rfl, ra, rb⟩ := vals2 r1
  obtain rfl : u1 = Value.ref a := ra
  obtain rfl : u2 = Value.ref b := rb
  obtain ⟨its, rv, p1, z1⟩ := I1.tuple h1
  obtain ⟨its2, rv2, p2, z2⟩ := I1.tuple h2
  refine RZ.call_zipT p1 p2 fun h' yz yI yO yi1 yi2 ysz yk => ?_
  refine Calls.spliced_nil ?_
  have l1 := rv.length
  have l2 := rv2.length
  rw [List.length_map] at l1
  have la : @LT.lt Nat _ a s1.heap.objs.size := by obtain ⟨o, e, _⟩ := p1; exact Heap.lt_size e
  have lb : @LT.lt Nat _ b s1.heap.objs.size := by obtain ⟨o, e, _⟩ := p2; exact Heap.lt_size e
  have D : ZipApart (s1.heap.objs.size + 4) (s1.heap.objs.size + 2) (s1.heap.objs.size + 3) s1.heap.objs.size (s1.heap.objs.size + 1) a b := by
    constructor <;> first | omega | exact Nat.ne_of_lt (by omega) | exact Nat.ne_of_gt (by omega)
  have I2 : Inv X pins σ H1 { s1 with heap := h' } := I1.kept (t' := s1.toks) yk
  have vk : ∀ (i : Nat) (k v : Value), its.toArray[i]? = some k ∧ its2.toArray[i]? = some v → ∃ x y, ks[i]? = some x ∧ xs[i]? = some y ∧ RelV (.str x) k ∧ RelV y v := by
    intro i k v e
    obtain ⟨e1, e2⟩ := e
    rw [List.getElem?_toArray] at e1 e2
    have hi : i < ks.length := by have := (List.getElem?_eq_some_iff.mp e1).1; omega
    have hi2 : i < xs.length := by omega
    obtain ⟨u, f1, f2⟩ := rv.get (i := i) (x := V.str ks[i]) (by rw [List.getElem?_map, List.getElem?_eq_getElem hi]; rfl)
    obtain ⟨u', g1, g2⟩ := rv2.get (i := i) (x := xs[i]) (List.getElem?_eq_getElem hi2)
    rw [e1] at f1
    rw [e2] at g1
    cases f1
    cases g1
    exact ⟨_, _, List.getElem?_eq_getElem hi, List.getElem?_eq_getElem hi2, f2, g2⟩
  have hkeys : (((ks.map (Sum.inr : Str → Key)).zip its2).map (·.1)).Nodup := by
    rw [List.map_fst_zip (by rw [List.length_map]; omega)]
    exact List.pairwise_map.mpr (List.Pairwise.imp (fun h e => h (Sum.inr.inj e)) hn)
  refine PySem.call_dict_pairs (knd := mixKind X.prog X.w) (kvs := (ks.map (Sum.inr : Str → Key)).zip its2) (PairArg.zipT (s1.heap.objs.size + 4) (s1.heap.objs.size + 2) (s1.heap.objs.size + 3) s1.heap.objs.size (s1.heap.objs.size + 1) a b D its.toArray its2.toArray) (I1.ok.hd hc)
    ⟨⟨yz, _, _, yO⟩, yI, ⟨yi1, yi2⟩, (show Heap.IsTuple h' a its.toArray from Heap.IsTuple.at (h := s1.heap) p1 fun o e => yk _ o e), (show Heap.IsTuple h' b its2.toArray from Heap.IsTuple.at (h := s1.heap) p2 fun o e => yk _ o e)⟩ ⟨?_, fun i key v e => ?_⟩ ?_ fun h'' tk dd hk => ?_
  · rw [List.length_zip, List.length_map, List.size_toArray, List.size_toArray]; omega
  · obtain ⟨x, y, e1, e2, r1, r2⟩ := vk i key v e
    obtain ⟨t, rfl⟩ := r1
    have e3 := e.2
    rw [List.getElem?_toArray] at e3
    refine ⟨Sum.inr x, ?_, mixKind_str X.prog X.w x t⟩
    rw [List.getElem?_zip_eq_some]
    exact ⟨by rw [List.getElem?_map, e1]; rfl, e3⟩
  · rw [List.size_toArray, List.size_toArray, sizeLine_eq]; omega
  · rw [merged_nodup _ [] (by simpa using hkeys), List.nil_append] at dd
    have fresh : ∀ c, s1.heap.objs.size ≤ c → FpOk X pins H1 c := fun c hle => I1.fpOk hle (I1.hok.fresh hle)
    have hdn : H1 h'.objs.size = none := I1.hok.fresh (by rw [ysz]; omega)
    have kv : KV ((ks.map (Sum.inr : Str → Key)).zip xs) ((ks.map (Sum.inr : Str → Key)).zip its2) := by
      clear q hkeys vk dd hn
      have : ∀ (ks : List Str) (xs : List V) (ys : List Value), Vals xs ys → KV ((ks.map (Sum.inr : Str → Key)).zip xs) ((ks.map (Sum.inr : Str → Key)).zip ys) := by
        intro ks
        induction ks with
        | nil => intro xs ys _; exact .nil
        | cons k ks ih =>
          intro xs ys r
          cases r with
          | nil => exact .nil
          | cons r t => exact .cons ⟨rfl, r⟩ (ih _ _ t)
      exact this ks xs its2 rv2
    have hdsys : (h'.objs.size == sysModules) = false := by
      have := I2.big
      exact beq_eq_false_iff_ne.mpr (Nat.ne_of_gt this)
    have new : ObjOk X.prog X.w (upd H1 h'.objs.size (.dK ((ks.map (Sum.inr : Str → Key)).zip xs))) h'' h'.objs.size (.dK ((ks.map (Sum.inr : Str → Key)).zip xs)) :=
      ⟨by rw [List.length_zip, List.length_map, sizeLine_eq]; omega, hdsys, _, kv, dd⟩
    refine ⟨.ref h'.objs.size, _, I1.turnedNew (t' := tk) (ch := []) (fun c o hb e => hk c o (fun z => ?_) (yk c o e)) (fun b hb => by cases hb) (by rw [ysz]; omega) new, rfl, q _ hdn⟩
    have : @LT.lt Nat _ c s1.heap.objs.size := Heap.lt_size e
    simp only [List.mem_cons, List.not_mem_nil, or_false] at z
    rcases z with z | z | z | z <;> (rw [z] at this; omega)
/-! ### enumerate(tuple) -/
def IteT (K : PySem.W.Frag) (a : Addr) : It :=
  ⟨fun i H => ∃ (xs : List V) (x : V), SqT K H a xs ∧ xs[i]? = some x, fun i H v H' => ∃ T x, v = .ref T ∧ H T = none ∧ H' = upd H T (.tup [.int (i : Nat), x]) ∧ ∀ xs, SqT K H a xs → xs[i]? = some x, fun i H => ∃ xs : List V, SqT K H a xs ∧ xs.length ≤ i⟩
theorem turn_enumT {P : Program} {w : World} {K : PySem.W.Frag} {elts : List Expr} {kk : Nat} {tpos : Pos} (a e it : Addr) :
    Turn P w K (.Tuple elts kk tpos) (IteT K a) [e, it] e (fun i h => (∃ old, IsEnum h e it ((i : Nat) : Int) old) ∧ h.IsTupleIter it a i ∧ e ≠ it ∧ a ≠ e ∧ a ≠ it) where
  mem := by simp
  obj := fun i h st b hb => by
    obtain ⟨⟨old, he⟩, ⟨o, ho, hc, hd⟩, _⟩ := st
    have e' : b = e ∨ b = it := by simpa using hb
    rcases e' with z | z
    · rw [z]; exact ⟨_, he, fun v q => nomatch q⟩
    · rw [z]; exact ⟨o, ho, fun v q => by rw [hd] at q; cases q⟩
  keep := fun i h h' st k => let ⟨⟨old, he⟩, hi, hne⟩ := st; ⟨⟨old, k e (by simp) _ he⟩, hi.at fun o q => k it (by simp) o q, hne⟩
  item := by
    intro X hP hw hK hc i pins s σ H E I hf st hg
    subst hP hw hK
    obtain ⟨⟨old, he⟩, hit, hne, hae, hai⟩ := st
    obtain ⟨xs, x, hq, hx⟩ := hg
    obtain ⟨its, rv, p, hz⟩ := I.tuple hq
    obtain ⟨u, hu, ru⟩ := rv.get hx
    have hel : e < s.heap.objs.size := Heap.lt_size he
    have hil : it < s.heap.objs.size := by obtain ⟨_, q, _⟩ := hit; exact Heap.lt_size q
    have hlt : i < its.toArray.size := by have := (List.getElem?_eq_some_iff.mp hu).1; simpa using this
    refine wpAny_pyNext_enum_itemD (D := Draws.tuple (A := X.A.in1) (I.ok.hd hc) it a hai its.toArray) he ⟨hit, p⟩ hlt hne (by simp [hne, Ne.symm hae]) fun u' h' tk hu' ho hst hT hsz hk => ?_
    have eu : u' = u := by
      have e1 : its.toArray[i]? = some u' := hu'
      rw [List.getElem?_toArray, hu] at e1
      exact (Option.some.inj e1).symm
    subst eu
    refine ⟨_, rfl, wpAny_letOwnedTupleGo_enum (s := { s with heap := h', toks := tk + 1 }) ho fun h'' he' sb => ?_⟩
    have hT2 : h''.get? s.heap.objs.size = some { cls := .type "tuple", data := .seq #[.int i tk, u'] } := (sb.2 _ (Nat.ne_of_gt hel)).trans hT
    have new : ObjOk X.prog X.w (upd H s.heap.objs.size (.tup [.int (i : Nat), x])) h'' s.heap.objs.size (.tup [.int (i : Nat), x]) :=
      ⟨by show 2 ≤ sizeLine; decide, [.int i tk, u'], .cons ⟨_, rfl⟩ (.cons ru .nil), ⟨_, hT2, rfl, _, rfl⟩⟩
    have I1 : Inv X pins σ (upd H s.heap.objs.size (.tup [.int (i : Nat), x])) { s with heap := h'', toks := tk + 1 } :=
      I.turnedNew (ch := [e, it]) (fun b ob hb q => (sb.2 b (fun z => hb (by simp [z]))).trans (hk b ob (fun z => hb (by simp [z])) (fun z => hb (by simp [z])) q)) hf (Nat.le_refl _) new
    refine ⟨.ref s.heap.objs.size, _, I1, rfl, ⟨_, x, rfl, I.hok.fresh (Nat.le_refl _), rfl, fun ys hy => by rw [I.tuple_inj hy hq]; exact hx⟩, ⟨⟨u', ?_⟩, hst.1.at fun o q => (sb.2 it (Ne.symm hne)).trans q, hne, hae, hai⟩, fun b hb => ?_⟩
    · have e1 : ((i + 1 : Nat) : Int) = (i : Int) + 1 := by omega
      rw [e1]; exact he'
    · have hb' : b < s.heap.objs.size := by
        have e' : b = e ∨ b = it := by simpa using hb
        rcases e' with z | z
        · rw [z]; exact hel
        · rw [z]; exact hil
      rw [upd_ne (Nat.ne_of_lt hb')]
      exact (hf b hb).1
  done := by
    intro X hP hw hK hc i pins s σ H E I hf st hg
    subst hP hw hK
    obtain ⟨⟨old, he⟩, hit, hne, hae, hai⟩ := st
    obtain ⟨xs, hq, hx⟩ := hg
    obtain ⟨its, rv, p, hz⟩ := I.tuple hq
    obtain ⟨f0, f1, f2, f3, f4, f5⟩ := hf it (by simp)
    have hl := rv.length
    have hT : s.TypeIs (.ref e) "enumerate" := ⟨_, he, rfl⟩
    unfold pyNext
    refine wpAny_bind (wpAny_attempt (wpAny_callSpecial?_slot (name := Str.ofString "__next__") hT PySem.F.slot_enumerate_next
      (wpAny_call_entry PySem.F.slot_enumerate_next hT PySem.F.entry_enumerate_next ?_ (PySem.F.args_enumerate_next_1 _))))
    show wpAny _ _ (field (.ref e) 2 >>= _) _ _ _
    refine wpAny_bind (wpAny_field he rfl (x := .ref it) rfl ?_)
    refine wpAny_bind (RZ.nextOf_tuple_end (A := X.A.in1) (I.ok.hd hc) hit p (by simp; omega) fun h' e' hk he' => ?_)
    obtain ⟨o, ho, hcc⟩ := he'
    refine wpAny_bind (wpAny_isInstance (T := "StopIteration") (b := true) ⟨o, ho, hcc⟩ isSubtype_stop ?_)
    exact wpAny_pure ⟨rfl, I.turned (t' := s.toks) (fun b o hb q => hk b o hb q) f0 f1 f3 f4 f5⟩
  self := fun A i s Q E st h => let ⟨⟨_, he⟩, _⟩ := st; wpAny_pyIter_enum he h
def YEn (xs : List V) : Nat → Hp → V → Hp → Prop := fun i H x H' => ∃ T y, xs[i]? = some y ∧ x = .ref T ∧ H T = none ∧ H' = upd H T (.tup [.int (i : Nat), y])
theorem walk_enumT {K : PySem.W.Frag} {a : Addr} {xs : List V} : Walk (IteT K a) xs.length (fun H => SqT K H a xs) (YEn xs) :=
  ⟨fun i _ hi q => ⟨xs, xs[i], q, by simp [hi]⟩, fun _ q => ⟨xs, q, Nat.le_refl _⟩, fun i H v H' _ q y => let ⟨T, x, h1, h2, h3, h4⟩ := y; ⟨T, x, h4 xs q, h1, h2, h3⟩⟩
def iEnumT (K : PySem.W.Frag) (ta : TA) : TI := fun σ H R => ta σ H fun vs H1 => ∃ a xs, vs = [.ref a] ∧ SqT K H1 a xs ∧ R (IteT K a) H1
theorem pi_enumT {e : Expr} {ta : TA} {p pos tpos : Pos} {elts : List Expr} {kk : Nat} (hg : Gl X "enumerate") (hm : X.mg "enumerate" = none) (ha : PA X [e] ta) (hs : starEach [e] X.env = [(false, eval e X.env)] := by rfl) :
    PI X (.Tuple elts kk tpos) (.Call (.Name "enumerate" p) [e] [] pos) (iEnumT X.K ta) := by
  refine ⟨fun pins s σ H R I h => ?_⟩
  refine Call_ (ld_blt I hg hm boot_enumerate (PyProof.Rows.callWith_type1 (thn (ha.run pos pins s σ H _ I h) fun us s1 ⟨vs, H1, I1, r1, a, xs, ex, hq, q⟩ => ?_) hs rfl))
  subst ex
  obtain ⟨u, rfl, ru⟩ := vals1 r1
  obtain rfl : u = Value.ref a := ru
  obtain ⟨its, rv, p', hz⟩ := I1.tuple hq
  have la : a < s1.heap.objs.size := by obtain ⟨o, e, _⟩ := p'; exact Heap.lt_size e
  refine hs_enum_tuple p' fun h' he hit hsz hk => wpAny_pyIter_enum he ?_
  have I2 : Inv X pins σ H1 { s1 with heap := h' } := I1.kept (t' := s1.toks) hk
  refine ⟨s1.heap.objs.size + 1, [s1.heap.objs.size + 1, s1.heap.objs.size], _, _, H1, rfl, I2, turn_enumT a (s1.heap.objs.size + 1) s1.heap.objs.size, ⟨⟨.none, he⟩, hit, Nat.succ_ne_self _, Nat.ne_of_lt (Nat.lt_succ_of_lt la), Nat.ne_of_lt la⟩, fun b hb => ?_, q⟩
  have e' : b = s1.heap.objs.size + 1 ∨ b = s1.heap.objs.size := by simpa using hb
  have hle : s1.heap.objs.size ≤ b := by
    rcases e' with z | z
    · rw [z]; exact Nat.le_add_right _ _
    · rw [z]; exact Nat.le_refl _
  exact I1.fpOk hle (I1.hok.fresh hle)
/-! ### sum, any of a tuple; extend; repr -/
def rSumT (K : PySem.W.Frag) : List V → Hp → VK → Prop := fun vs H Q => ∃ (a : Addr) (ns : List Int), vs = [V.ref a] ∧ SqT K H a (ns.map V.int) ∧ Q (.int ns.sum) H
theorem cr_sumT (hc : X.calm = true) : CallR X (.builtin "sum") (rSumT X.K) := by
  intro pins s σ H vs us Q I r h
  obtain ⟨a, ns, rfl, hs, q⟩ := h
  obtain ⟨its, rv, hl, _⟩ := I.tuple hs
  rw [Vals.ref1 r]
  have hi := rv.ints
  obtain ⟨xs, e⟩ := hi.allInts.items
  have hn : numsOf (intItems xs).toList = ns := by rw [← e]; exact hi.numsOf
  rw [nums_intItems] at hn
  have hl : s.heap.IsTuple a (intItems xs) := by rw [← e]; exact hl
  refine PySem.W.ktm_sumG (I.ok.hd hc) hl fun h' tk t' hk => ?_
  refine ⟨.int ns.sum, H, I.kept hk, ⟨t', ?_⟩, q⟩
  rw [preSum_eq, List.take_of_length_le (by simp), hn]
def rAnyT (K : PySem.W.Frag) : List V → Hp → VK → Prop := fun vs H Q => ∃ (a : Addr) (bs : List Bool), vs = [V.ref a] ∧ SqT K H a (bs.map V.bl) ∧ Q (.bl (bs.any id)) H
theorem cr_anyT (hc : X.calm = true) : CallR X (.builtin "any") (rAnyT X.K) := by
  intro pins s σ H vs us Q I r h
  obtain ⟨a, bs, rfl, hs, q⟩ := h
  obtain ⟨its, rv, hl, _⟩ := I.tuple hs
  rw [Vals.ref1 r]
  have hb := rv.bls
  have hT : s.heap.IsTuple a its.toArray := hl
  have hlt : a < s.heap.objs.size := by obtain ⟨_, e, _⟩ := hT; exact Heap.lt_size e
  refine call_any_walk (wpAny_pyIter_tuple hT ?_)
  refine ⟨_, _, _, _, _, _, _, rfl, Walks.tuple (A := X.A.in1) (I.ok.hd hc) _ a (Nat.ne_of_lt hlt) its.toArray, ⟨⟨_, Heap.get?_push_size _ rfl, rfl, rfl⟩, hT.at fun o e => Heap.get?_push_of_some _ e⟩, truth_bools hb, fun h' tk hk => ?_⟩
  refine ⟨.bl _, H, I.kept fun b o eo => hk b o (fun hmem => ?_) (Heap.get?_push_of_some _ eo), ?_, q⟩
  · rcases List.mem_cons.mp hmem with e1 | hmem
    · exact absurd (e1 ▸ Heap.lt_size eo) (Nat.lt_irrefl _)
    · cases hmem
  · show Value.bool _ = Value.bool _
    rw [← L2.any_range, hb, List.size_toArray, List.length_map]
def rExtT (K : PySem.W.Frag) : V → List V → Hp → VK → Prop := fun x vs H Q => ∃ l b xs zs, x = .ref l ∧ vs = [.ref b] ∧ H l = some (.lst xs) ∧ SqT K H b zs ∧ xs.length + zs.length ≤ sizeLine ∧ Q .non (upd H l (.lst (xs ++ zs)))
theorem call_repr_bool : CallR X (.builtin "repr") (fun xs H Q => ∃ b, xs = [.bl b] ∧ Q (.str (if b then "True" else "False")) H) := by
  intro pins s σ H xs us Q I r h
  obtain ⟨b, rfl, q⟩ := h
  obtain ⟨u, rfl, ru⟩ := vals1 r
  obtain rfl : u = Value.bool b := ru
  exact PySem.P.repr_of_bool ⟨.str _, H, I.tok _, ⟨_, rfl⟩, q⟩
end
end Hs
set_option Elab.async false
set_option linter.all false
set_option maxRecDepth 100000
set_option maxHeartbeats 4000000
/-! max and min of a list of ints with default=: the library's call_max_walkD and call_min_walkD over a list's walk. -/
namespace Hs
open PySem PySem.Spec PyProof.Rows L2
section
variable {X : Cx}
/-- what a walk of a list in calm surroundings leaves: heap and signs alone changed -/
theorem moved_at {wr : List Addr} {s s' : Shared} (m : Moved wr (fun a b => b = a) s s') : ∃ h' tk, s' = { s with heap := h', toks := tk } ∧ ∀ b o, b ∉ wr → s.heap.get? b = some o → h'.get? b = some o := by
  obtain ⟨hp, g, d, tk, os⟩ := s'
  obtain ⟨m1, m2, m3, m4, _⟩ := m
  dsimp only at m1 m2 m3 m4
  subst m2; subst m3; subst m4
  exact ⟨_, _, rfl, m1⟩
/-- a heap without objects: what is asked of every object of it holds -/
theorem no_obj {b : Addr} {o : Obj} (e : ({ objs := #[] } : Heap).get? b = some o) : False := by simp [Heap.get?] at e
def rMxD (K : PySem.W.Frag) : List V → List V → Hp → VK → Prop := fun vs zs H Q => ∃ (a : Addr) (ns : List Int), vs = [V.ref a] ∧ zs = [.non] ∧ SqL K H a (ns.map V.int) ∧ (ns = [] → Q .non H) ∧ ∀ m, m ∈ ns → (∀ y, y ∈ ns → y ≤ m) → Q (.int m) H
theorem cr_maxD (hc : X.calm = true) : CallRK X (.builtin "max") [Str.ofString "default"] (rMxD X.K) := by
  intro pins s σ H vs zs us ws Q I r rz h
  obtain ⟨a, ns, rfl, rfl, hs, q0, q1⟩ := h
  obtain ⟨its, rv, hl, _⟩ := I.list hs
  rw [Vals.ref1 r]
  obtain ⟨w1, rfl, e1⟩ := vals1 rz
  obtain rfl : w1 = Value.none := e1
  have hi := rv.ints
  obtain ⟨xs, e⟩ := hi.allInts.items
  have hn : numsOf (intItems xs).toList = ns := by rw [← e]; exact hi.numsOf
  rw [nums_intItems] at hn
  have hL : s.heap.IsList a (intItems xs) := by rw [← e]; exact hl.isList
  have hsz : (intItems xs).size = xs.size := by simp [intItems]
  have hnl : ns.length = xs.size := by rw [← hn]; simp
  refine call_max_walkD (iter_intList hL fun s₂ e2 st hfp hlI => ?_)
  subst e2
  refine ⟨_, _, _, _, _, _, _, { objs := #[] }, _, rfl, (Walks.list (A := X.A.in1) (I.ok.hd hc) _ a hlI (intItems xs)).toS, st, hfp, fun _ _ e => (no_obj e).elim, fun _ _ e => (no_obj e).elim, fun h0 s' m => ?_,
    fun h0 => ⟨fun i j vi vj s3 Q3 E3 _ => CmpOf.ints_gt (numAt xs) (fun _ _ => intItems_at) i j vi vj s3 Q3 E3, fun v s' hP m => ?_⟩⟩
  · obtain ⟨h', tk, rfl, hk⟩ := moved_at m
    exact ⟨.non, H, I.kept (old_kept hk), rfl, q0 (by rw [← List.length_eq_zero_iff]; omega)⟩
  · obtain ⟨h', tk, rfl, hk⟩ := moved_at m
    have hP' : (intItems xs)[argBest (fun i j => decide (numAt xs i > numAt xs j)) (xs.size - 1)]? = some v := by simpa [intItems] using hP
    obtain ⟨t, rfl⟩ := intItems_at hP'
    obtain ⟨h1, h2⟩ := argBest_gt (numAt xs) (xs.size - 1)
    have h0' : 0 < xs.size := by omega
    refine ⟨.int _, H, I.kept (old_kept hk), ⟨t, rfl⟩, q1 _ ?_ fun y hy => ?_⟩
    · rw [numAt_eq, ← hn]; exact PySem.getD_mem (by rw [List.length_map, Array.length_toList]; omega)
    · rw [← hn] at hy
      obtain ⟨j, hj, rfl⟩ := mem_getD hy
      rw [List.length_map, Array.length_toList] at hj
      rw [← numAt_eq]; exact h2 j (by omega)

def rMnD (K : PySem.W.Frag) : List V → List V → Hp → VK → Prop := fun vs zs H Q => ∃ (a : Addr) (ns : List Int), vs = [V.ref a] ∧ zs = [.non] ∧ SqL K H a (ns.map V.int) ∧ (ns = [] → Q .non H) ∧ ∀ m, m ∈ ns → (∀ y, y ∈ ns → m ≤ y) → Q (.int m) H
theorem cr_minD (hc : X.calm = true) : CallRK X (.builtin "min") [Str.ofString "default"] (rMnD X.K) := by
  intro pins s σ H vs zs us ws Q I r rz h
  obtain ⟨a, ns, rfl, rfl, hs, q0, q1⟩ := h
  obtain ⟨its, rv, hl, _⟩ := I.list hs
  rw [Vals.ref1 r]
  obtain ⟨w1, rfl, e1⟩ := vals1 rz
  obtain rfl : w1 = Value.none := e1
  have hi := rv.ints
  obtain ⟨xs, e⟩ := hi.allInts.items
  have hn : numsOf (intItems xs).toList = ns := by rw [← e]; exact hi.numsOf
  rw [nums_intItems] at hn
  have hL : s.heap.IsList a (intItems xs) := by rw [← e]; exact hl.isList
  have hsz : (intItems xs).size = xs.size := by simp [intItems]
  have hnl : ns.length = xs.size := by rw [← hn]; simp
  refine call_min_walkD (iter_intList hL fun s₂ e2 st hfp hlI => ?_)
  subst e2
  refine ⟨_, _, _, _, _, _, _, { objs := #[] }, _, rfl, (Walks.list (A := X.A.in1) (I.ok.hd hc) _ a hlI (intItems xs)).toS, st, hfp, fun _ _ e => (no_obj e).elim, fun _ _ e => (no_obj e).elim, fun h0 s' m => ?_,
    fun h0 => ⟨fun i j vi vj s3 Q3 E3 _ => CmpOf.ints_lt (numAt xs) (fun _ _ => intItems_at) i j vi vj s3 Q3 E3, fun v s' hP m => ?_⟩⟩
  · obtain ⟨h', tk, rfl, hk⟩ := moved_at m
    exact ⟨.non, H, I.kept (old_kept hk), rfl, q0 (by rw [← List.length_eq_zero_iff]; omega)⟩
  · obtain ⟨h', tk, rfl, hk⟩ := moved_at m
    have hP' : (intItems xs)[argBest (fun i j => decide (numAt xs i < numAt xs j)) (xs.size - 1)]? = some v := by simpa [intItems] using hP
    obtain ⟨t, rfl⟩ := intItems_at hP'
    obtain ⟨h1, h2⟩ := argBest_lt (numAt xs) (xs.size - 1)
    have h0' : 0 < xs.size := by omega
    refine ⟨.int _, H, I.kept (old_kept hk), ⟨t, rfl⟩, q1 _ ?_ fun y hy => ?_⟩
    · rw [numAt_eq, ← hn]; exact PySem.getD_mem (by rw [List.length_map, Array.length_toList]; omega)
    · rw [← hn] at hy
      obtain ⟨j, hj, rfl⟩ := mem_getD hy
      rw [List.length_map, Array.length_toList] at hj
      rw [← numAt_eq]; exact h2 j (by omega)
end
end Hs
set_option Elab.async false
set_option linter.all false
set_option maxRecDepth 100000
set_option maxHeartbeats 4000000
/-! tuple * 1; xs.extend(tuple); what walks a list or a tuple. -/
namespace Hs
open PySem PySem.Spec PyProof.Rows L2
theorem tuple_mul1 (l : Addr) (items : Array Value) (n : Nat) (dd : Option Addr) (sl : Array (Option Value)) (u : Tok) :
    Meets (Builtin.«tuple.__mul__» ⟨[.ref l, .int 1 u], []⟩) (fun _ R s => s.heap.get? l = some { cls := .type "tuple", dict := dd, data := .seq items n, slots := sl } ∧ R (.ok (.ret (Value.ref l))) s) :=
  .of_wp fun prog w A R s h => by
    obtain ⟨hp, g, d, tk, os⟩ := s
    obtain ⟨hl, h⟩ := h
    have f1 := AutoSeq1.idx_int
    have c1 : (items.isEmpty || (1 : Int) == 1) = true := by simp
    wp_walk using AutoSeq1.wpAny_loadPart' hl
    repeat (first
      | (refine wpAny_ite_true (decide_eq_true c1) ?_; wp_walk using AutoSeq1.wpAny_loadPart' hl)
      | (refine wpAny_ite_false (by decide) ?_; wp_walk using AutoSeq1.wpAny_loadPart' hl))
    exact ⟨_, rfl, h⟩
def rRep1 (K : PySem.W.Frag) : R2 := fun x y H Q => ∃ l xs, x = .ref l ∧ y = .int 1 ∧ SqT K H l xs ∧ Q (.ref l) H
section
variable {X : Cx}
theorem op_rep1 : OpR X (binaryOp .Mult) (rRep1 X.K) := by
  intro pins s σ H x y v u Q I rx ry h
  obtain ⟨l, xs, rfl, rfl, hT, q⟩ := h
  cases rx
  obtain ⟨t, rfl⟩ := ry
  obtain ⟨its, r, ⟨⟨cls, dd, data, sl⟩, ho, hc, n, hd⟩, hs⟩ := I.tuple hT
  simp only at hc hd
  subst hc hd
  refine wpAny_binaryOp_repeat_ref (T := "tuple") (U := "int") (by decide) ⟨_, ho, rfl⟩ (fun s' => typeIs_int s' 1 t) noFill_tuple_mul F.fills_int_mul F.slot_int_rmul repeat_tuple F.slot_int_index.lookup
    (call_meets F.slot_int_rmul (typeIs_int s 1 t) F.entry_int_rmul (F.args_int_rmul_2 _ _) (int_rmul_tuple 1 t l its.toArray n dd sl)
      ⟨ho, rfl, ⟨_, ho, rfl⟩, call_meets F.slot_tuple_mul ⟨_, ho, rfl⟩ F.entry_tuple_mul (F.args_tuple_mul_2 _ _) (tuple_mul1 l its.toArray n dd sl t) ⟨ho, ?_⟩⟩)
  exact ⟨.ref l, H, I, rfl, q⟩
/-- (v,) * k, 1 ≤ k -/
def rRepV (K : PySem.W.Frag) : R2 := fun x y H Q => ∃ l k v, x = .ref l ∧ y = .int k ∧ H l = some (.tup [v]) ∧ 1 ≤ k ∧ k ≤ 1000 ∧ ∀ p H', Ex H H' → H' p = some (.tup (List.replicate k.toNat v)) → Q (.ref p) H'
theorem op_repV : OpR X (binaryOp .Mult) (rRepV X.K) := by
  intro pins s σ H x y v u Q I rx ry h
  obtain ⟨l, k, v, rfl, rfl, hT, h1, h2, q⟩ := h
  by_cases e : k = 1
  · subst e
    exact op_rep1 pins s σ H _ _ _ _ Q I rx ry ⟨l, [v], rfl, rfl, .inl (.inl hT), q l H (Ex.refl H) (by simpa using hT)⟩
  · refine op_repT pins s σ H _ _ _ _ Q I rx ry ⟨l, k, [v], rfl, rfl, .inl (.inl hT), by simp, by omega, h2, by simp, fun p hp => q p _ (Ex.new hp) ?_⟩
    rw [upd_same]
    congr 2
    induction k.toNat with
    | zero => rfl
    | succ n ih => rw [List.replicate_succ, List.flatten_cons, ih]; rfl
/-- xs.extend(t) -/
theorem mt_extT : MtR X "list.extend" (rExtT X.K) := by
  intro pins s σ H x vs v us Q I rx rv h
  obtain ⟨l, b, xs, zs, rfl, rfl, hH, hB, hz, q⟩ := h
  obtain rfl : v = Value.ref l := rx
  obtain ⟨u, rfl, ru⟩ := vals1 rv
  obtain rfl : u = Value.ref b := ru
  obtain ⟨z, its, n, r, hl, e⟩ := I.lstM hH
  obtain ⟨its2, r2, ⟨o2, e2, c2, n2, d2⟩, z2⟩ := I.tuple hB
  have hl2 := r2.length
  have hne : l ≠ b := fun w => by
    rw [← w, e] at e2
    have := Option.some.inj e2
    rw [← this] at c2
    injection c2 with c3
    exact absurd c3 (by decide)
  have hsz : its.toArray.size + its2.toArray.size ≤ sizeLine := by rw [List.size_toArray, List.size_toArray]; omega
  have hlong : (!its.toArray.isEmpty && Builtin.List.listTooLong (its.toArray.size + its2.toArray.size)) = false := by
    rw [notLongL hsz, Bool.and_false]
  have hT : s.TypeIs (.ref b) "tuple" := ⟨o2, e2, c2⟩
  refine wpAny_call_entry F.slot_list_extend ⟨_, e, rfl⟩ F.entry_list_extend ?_ (F.args_list_extend_2 _ _)
  show wpAny _ _ (Builtin.List.listExtendWith (.ref l) (.ref b) .none) _ _ s
  unfold Builtin.List.listExtendWith
  refine wpAny_bind (wpAny_typeOf hT ?_)
  have h1 : Builtin.List.listSameRef (.ref l) (.ref b) = false := by simp [Builtin.List.listSameRef, hne]
  have h3 : (Value.type "tuple" == Value.type "tuple") = true := by decide
  simp only [h1, h3, Bool.or_true, if_true]
  refine wpAny_bind ?_
  unfold Builtin.List.listItems
  refine wpAny_bind (wpAny_seqItems e2 d2 (wpAny_pure ?_))
  refine wpAny_bind (wpAny_bind (wpAny_seqItems e rfl (wpAny_pure ?_)))
  refine wpAny_ite_split (fun hab => absurd hab (by rw [hlong]; exact Bool.false_ne_true)) (fun _ => ?_)
  show wpAny _ _ (updateSeq l (· ++ its2.toArray) >>= _) _ _ s
  refine wpAny_bind ?_
  refine wpAny_updateSeq e rfl ?_ (by rw [List.size_toArray]; omega) (by rw [Array.size_append]; omega)
  refine wpAny_pure ⟨_, rfl, .non, _, I.lset (t' := s.toks) (f := (· ++ its2.toArray)) (its' := its ++ its2) hH e (by simp) (r.append r2) (by rw [List.length_append]; omega), rfl, q⟩
/-- for x in a list or a tuple -/
def SqA (K : PySem.W.Frag) (H : Hp) (a : Addr) (xs : List V) : Prop := SqL K H a xs ∨ SqT K H a xs
theorem ex_l {K : PySem.W.Frag} {H H' : Hp} {a : Addr} {xs : List V} (e : Ex H H') (h : SqL K H a xs) : SqL K H' a xs := by
  rcases h with (h | ⟨o, h⟩) | h
  · exact .inl (.inl (e _ _ h))
  · exact .inl (.inr ⟨o, e _ _ h⟩)
  · exact .inr h
theorem ex_t {K : PySem.W.Frag} {H H' : Hp} {a : Addr} {xs : List V} (e : Ex H H') (h : SqT K H a xs) : SqT K H' a xs := by
  rcases h with (h | ⟨o, h⟩) | h
  · exact .inl (.inl (e _ _ h))
  · exact .inl (.inr ⟨o, e _ _ h⟩)
  · exact .inr h
theorem SqA.mono {K : PySem.W.Frag} {H H' : Hp} {a : Addr} {xs : List V} (h : SqA K H a xs) (e : Ex H H') : SqA K H' a xs := h.imp (ex_l e) (ex_t e)
def iSq (K : PySem.W.Frag) (tl : TE) : TI := fun σ H R => tl σ H fun x H1 => ∃ a xs, x = .ref a ∧ SqA K H1 a xs ∧ ∀ J (G : Hp → Prop), Walk J xs.length G (YAt xs) → (∀ H', Ex H1 H' → G H') → R J H1
theorem pi_sq {l tg : Expr} {tl : TE} (hl : PE X l tl) : PI X tg l (iSq X.K tl) := by
  refine ⟨fun pins s σ H R I h => ?_⟩
  have key : ∀ v s1 x H1, Inv X pins σ H1 s1 → RelV x v → (∃ a xs, x = .ref a ∧ SqA X.K H1 a xs ∧ ∀ J (G : Hp → Prop), Walk J xs.length G (YAt xs) → (∀ H', Ex H1 H' → G H') → R J H1) → wpAny (model X.prog X.w) X.A (pyIter v) (PIE X pins σ tg R) X.xe s1 := by
    intro v s1 x H1 I1 r1 q1
    obtain ⟨a, xs, e, hq, q⟩ := q1
    subst e
    obtain rfl : v = Value.ref a := r1
    rcases hq with hq | hq
    · have q := q (Itl X.K a) _ walk_list fun H' z => ex_l z hq
      obtain ⟨its, rv, p, hz⟩ := I1.list hq
      refine wpAny_pyIter_list p.isList ?_
      refine ⟨s1.heap.objs.size, [s1.heap.objs.size], _, _, H1, rfl, I1.kept (t' := s1.toks) fun b o e => Heap.get?_push_of_some _ e, turn_list a _, ⟨_, Heap.get?_push_size _ rfl, rfl, rfl⟩, fun b hb => ?_, q⟩
      have e : b = s1.heap.objs.size := by simpa using hb
      subst e
      exact I1.fpOk (Nat.le_refl _) (I1.hok.fresh (Nat.le_refl _))
    · have q := q (Itt X.K a) _ walk_tup fun H' z => ex_t z hq
      obtain ⟨its, rv, p, hz⟩ := I1.tuple hq
      refine wpAny_pyIter_tuple (show s1.heap.IsTuple a its.toArray from p) ?_
      refine ⟨s1.heap.objs.size, [s1.heap.objs.size], _, _, H1, rfl, I1.kept (t' := s1.toks) fun b o e => Heap.get?_push_of_some _ e, turn_tuple a _, ⟨_, Heap.get?_push_size _ rfl, rfl, rfl⟩, fun b hb => ?_, q⟩
      have e : b = s1.heap.objs.size := by simpa using hb
      subst e
      exact I1.fpOk (Nat.le_refl _) (I1.hok.fresh (Nat.le_refl _))
  exact thn (hl.run pins s σ H _ I h) fun v s1 ⟨x, H1, I1, r1, q1⟩ => key v s1 x H1 I1 r1 q1
end
end Hs
set_option Elab.async false
set_option linter.all false
namespace Hs
/-! The plain law: what the questions answer, with no program in sight. -/
section
variable {α β : Type}
/-- the weight of a list of things with their times -/
def mu (A : List (α × Int)) (f : α → Int) : Int := (A.map fun p => p.2 * f p.1).sum
def Eqv (A B : List (α × Int)) : Prop := ∀ f : α → Int, mu A f = mu B f
def AllPos (A : List (α × Int)) : Prop := ∀ p, p ∈ A → 0 < p.2
theorem mu_nil (f : α → Int) : mu [] f = 0 := rfl
theorem mu_cons (p : α × Int) (A : List (α × Int)) (f : α → Int) : mu (p :: A) f = p.2 * f p.1 + mu A f := by
  unfold mu; rw [List.map_cons, List.sum_cons]
theorem mu_append (A B : List (α × Int)) (f : α → Int) : mu (A ++ B) f = mu A f + mu B f := by
  unfold mu; rw [List.map_append, List.sum_append]
theorem Eqv.refl (A : List (α × Int)) : Eqv A A := fun _ => rfl
theorem Eqv.symm {A B : List (α × Int)} (h : Eqv A B) : Eqv B A := fun f => (h f).symm
theorem Eqv.trans {A B C : List (α × Int)} (h : Eqv A B) (k : Eqv B C) : Eqv A C := fun f => (h f).trans (k f)
theorem Eqv.app {A B C D : List (α × Int)} (h : Eqv A B) (k : Eqv C D) : Eqv (A ++ C) (B ++ D) := fun f => by
  rw [mu_append, mu_append, h f, k f]
theorem Eqv.comm (A B : List (α × Int)) : Eqv (A ++ B) (B ++ A) := fun f => by
  rw [mu_append, mu_append, Int.add_comm]
theorem Eqv.perm {A B : List (α × Int)} (h : A.Perm B) : Eqv A B := fun f => by
  induction h with
  | nil => rfl
  | cons p _ ih => rw [mu_cons, mu_cons, ih]
  | swap p q _ => simp only [mu_cons]; omega
  | trans _ _ a b => exact a.trans b
theorem AllPos.app {A B : List (α × Int)} (h : AllPos A) (k : AllPos B) : AllPos (A ++ B) := fun p hp => (List.mem_append.mp hp).elim (h p) (k p)
theorem AllPos.tail {p : α × Int} {A : List (α × Int)} (h : AllPos (p :: A)) : AllPos A := fun q hq => h q (List.mem_cons_of_mem _ hq)
theorem mu_nonneg {A : List (α × Int)} {f : α → Int} (hp : AllPos A) (hf : ∀ p, p ∈ A → 0 ≤ f p.1) : 0 ≤ mu A f := by
  induction A with
  | nil => exact Int.le_refl _
  | cons p A ih =>
    rw [mu_cons]
    have h1 := ih hp.tail fun q hq => hf q (List.mem_cons_of_mem _ hq)
    have h2 := Int.mul_nonneg (Int.le_of_lt (hp p List.mem_cons_self)) (hf p List.mem_cons_self)
    omega
theorem mu_congr {A : List (α × Int)} {f g : α → Int} (h : ∀ p, p ∈ A → f p.1 = g p.1) : mu A f = mu A g := by
  induction A with
  | nil => rfl
  | cons p A ih => rw [mu_cons, mu_cons, h p List.mem_cons_self, ih fun q hq => h q (List.mem_cons_of_mem _ hq)]
theorem mu_le {A : List (α × Int)} {f g : α → Int} (hp : AllPos A) (h : ∀ p, p ∈ A → f p.1 ≤ g p.1) : mu A f ≤ mu A g := by
  induction A with
  | nil => exact Int.le_refl _
  | cons p A ih =>
    rw [mu_cons, mu_cons]
    have h1 := ih hp.tail fun q hq => h q (List.mem_cons_of_mem _ hq)
    have h2 := Int.mul_le_mul_of_nonneg_left (h p List.mem_cons_self) (Int.le_of_lt (hp p List.mem_cons_self))
    omega
theorem mu_add (A : List (α × Int)) (f g : α → Int) : mu A (fun a => f a + g a) = mu A f + mu A g := by
  induction A with
  | nil => rfl
  | cons p A ih =>
    rw [mu_cons, mu_cons, mu_cons, ih, Int.mul_add]
    omega
theorem mu_neg (A : List (α × Int)) (f : α → Int) : mu A (fun a => - f a) = - mu A f := by
  induction A with
  | nil => rfl
  | cons p A ih =>
    rw [mu_cons, mu_cons, ih, Int.mul_neg]
    omega
theorem mu_map (A : List (β × Int)) (h : β → α) (f : α → Int) : mu (A.map fun p => (h p.1, p.2)) f = mu A fun b => f (h b) := by
  induction A with
  | nil => rfl
  | cons p A ih => rw [List.map_cons, mu_cons, mu_cons, ih]
def ind (P : α → Bool) : α → Int := fun a => if P a = true then 1 else 0
theorem ind_nn (P : α → Bool) (a : α) : 0 ≤ ind P a := by
  unfold ind; split <;> decide
theorem mem_of_mu {A : List (α × Int)} {P : α → Bool} (h : 0 < mu A (ind P)) : ∃ p, p ∈ A ∧ P p.1 = true := by
  induction A with
  | nil => exact absurd h (by rw [mu_nil]; decide)
  | cons p A ih =>
    by_cases hp : P p.1 = true
    · exact ⟨p, List.mem_cons_self, hp⟩
    · rw [mu_cons] at h
      have e : ind P p.1 = 0 := by unfold ind; rw [if_neg hp]
      rw [e, Int.mul_zero, Int.zero_add] at h
      obtain ⟨q, hq, r⟩ := ih h
      exact ⟨q, List.mem_cons_of_mem _ hq, r⟩
theorem mu_of_mem {A : List (α × Int)} {P : α → Bool} (hp : AllPos A) {p : α × Int} (hm : p ∈ A) (h : P p.1 = true) : 0 < mu A (ind P) := by
  induction A with
  | nil => cases hm
  | cons q A ih =>
    rw [mu_cons]
    have h0 := mu_nonneg hp.tail fun r (_ : r ∈ A) => ind_nn P r.1
    have h1 := Int.mul_nonneg (Int.le_of_lt (hp q List.mem_cons_self)) (ind_nn P q.1)
    rcases List.mem_cons.mp hm with e | hm
    · subst e
      have e : ind P p.1 = 1 := by unfold ind; rw [if_pos h]
      have := hp p List.mem_cons_self
      rw [e, Int.mul_one]
      omega
    · have := ih hp.tail hm
      omega
theorem Eqv.mem {A B : List (α × Int)} (h : Eqv A B) (pa : AllPos A) {P : α → Bool} {p : α × Int} (hm : p ∈ A) (hP : P p.1 = true) : ∃ q, q ∈ B ∧ P q.1 = true :=
  mem_of_mu (by rw [← h]; exact mu_of_mem pa hm hP)
/-- those that are picked, with what is picked of them -/
def mt (sel : α → Option β) (A : List (α × Int)) : List (β × Int) := A.filterMap fun p => (sel p.1).map fun b => (b, p.2)
theorem mt_cons (sel : α → Option β) (p : α × Int) (A : List (α × Int)) : mt sel (p :: A) = match sel p.1 with
    | some b => (b, p.2) :: mt sel A
    | none => mt sel A := by
  unfold mt
  rw [List.filterMap_cons]
  cases sel p.1 <;> rfl
theorem mt_append (sel : α → Option β) (A B : List (α × Int)) : mt sel (A ++ B) = mt sel A ++ mt sel B := by
  unfold mt; rw [List.filterMap_append]
theorem mt_pos {sel : α → Option β} {A : List (α × Int)} (h : AllPos A) : AllPos (mt sel A) := fun q hq => by
  obtain ⟨p, hp, e⟩ := List.mem_filterMap.mp hq
  obtain ⟨b, _, e2⟩ := Option.map_eq_some_iff.mp e
  rw [← e2]
  exact h p hp
def pull (sel : α → Option β) (g : β → Int) : α → Int := fun a => match sel a with
  | some b => g b
  | none => 0
theorem mu_mt (sel : α → Option β) (A : List (α × Int)) (g : β → Int) : mu (mt sel A) g = mu A (pull sel g) := by
  induction A with
  | nil => rfl
  | cons p A ih =>
    rw [mt_cons, mu_cons]
    have e : pull sel g p.1 = match sel p.1 with
      | some b => g b
      | none => 0 := rfl
    rw [e]
    cases sel p.1 with
    | none => show mu (mt sel A) g = p.2 * 0 + _; rw [Int.mul_zero, Int.zero_add, ih]
    | some b => show mu ((b, p.2) :: mt sel A) g = p.2 * g b + _; rw [mu_cons, ih]
theorem Eqv.mt {A B : List (α × Int)} (h : Eqv A B) (sel : α → Option β) : Eqv (mt sel A) (mt sel B) := fun g => by
  rw [mu_mt, mu_mt, h]
end

/-! ### the answers -/
abbrev ML := List (Option Int × Int)
def many (M : ML) : Int := (M.map fun p => p.2).sum
def total (M : ML) : Int := (M.filterMap fun p => p.1.map fun v => v * p.2).sum
def vals (M : ML) : List Int := M.filterMap fun p => p.1
theorem many_mu (M : ML) : many M = mu M fun _ => 1 := by
  unfold many mu
  congr 1
  exact List.map_congr_left fun p _ => (Int.mul_one p.2).symm
theorem total_mu (M : ML) : total M = mu M fun v => v.getD 0 := by
  induction M with
  | nil => rfl
  | cons p M ih =>
    rw [mu_cons, ← ih]
    unfold total
    rw [List.filterMap_cons]
    cases p.1 with
    | none => show _ = p.2 * 0 + _; rw [Int.mul_zero, Int.zero_add]; rfl
    | some v => show (v * p.2 :: _).sum = p.2 * v + _; rw [List.sum_cons, Int.mul_comm]
theorem mem_vals {M : ML} {v : Int} : v ∈ vals M ↔ ∃ p, p ∈ M ∧ p.1 = some v := by
  unfold vals
  rw [List.mem_filterMap]
theorem vals_eqv {M M' : ML} (h : Eqv M M') (hp : AllPos M) {v : Int} (hv : v ∈ vals M) : v ∈ vals M' := by
  obtain ⟨p, hm, e⟩ := mem_vals.mp hv
  obtain ⟨q, hq, e2⟩ := h.mem hp (P := fun o => decide (o = some v)) hm (decide_eq_true e)
  exact mem_vals.mpr ⟨q, hq, of_decide_eq_true e2⟩
def IsMax (vs : List Int) (o : Option Int) : Prop := match o with
  | none => vs = []
  | some m => m ∈ vs ∧ ∀ x, x ∈ vs → x ≤ m
def IsMin (vs : List Int) (o : Option Int) : Prop := match o with
  | none => vs = []
  | some m => m ∈ vs ∧ ∀ x, x ∈ vs → m ≤ x
theorem isMax_one {vs ws : List Int} {a b : Option Int} (h : ∀ v, v ∈ vs ↔ v ∈ ws) (ha : IsMax vs a) (hb : IsMax ws b) : a = b := by
  cases a with
  | none =>
    cases b with
    | none => rfl
    | some m =>
      have := (h m).mpr hb.1
      rw [show vs = [] from ha] at this
      cases this
  | some m =>
    cases b with
    | none =>
      have := (h m).mp ha.1
      rw [show ws = [] from hb] at this
      cases this
    | some n =>
      have h1 := ha.2 n ((h n).mpr hb.1)
      have h2 := hb.2 m ((h m).mp ha.1)
      have : m = n := by omega
      rw [this]
theorem isMin_neg {vs : List Int} {o : Option Int} (h : IsMin vs o) : IsMax (vs.map fun v => - v) (o.map fun v => - v) := by
  cases o with
  | none => rw [show vs = [] from h]; rfl
  | some m =>
    refine ⟨List.mem_map.mpr ⟨m, h.1, rfl⟩, fun x hx => ?_⟩
    obtain ⟨y, hy, rfl⟩ := List.mem_map.mp hx
    have := h.2 y hy
    show - y ≤ - m
    omega
/-! ### the greatest ones -/
def cge (L : List Int) (v : Int) : Nat := L.countP fun x => decide (v ≤ x)
theorem cge_cons (a : Int) (L : List Int) (v : Int) : cge (a :: L) v = cge L v + if v ≤ a then 1 else 0 := by
  unfold cge
  rw [List.countP_cons]
  by_cases h : v ≤ a
  · rw [if_pos (decide_eq_true h), if_pos h]
  · rw [if_neg (by simp [h]), if_neg h]
theorem cge_append (L L' : List Int) (v : Int) : cge (L ++ L') v = cge L v + cge L' v := List.countP_append
theorem cge_perm {L L' : List Int} (h : L.Perm L') (v : Int) : cge L v = cge L' v := h.countP_eq _
theorem cge_zero {L : List Int} {v : Int} (h : ∀ x, x ∈ L → x < v) : cge L v = 0 := List.countP_eq_zero.mpr fun x hx => by
  have := h x hx
  simp; omega
theorem cge_pos {L : List Int} {v : Int} (h : 0 < cge L v) : ∃ x, x ∈ L ∧ v ≤ x := by
  obtain ⟨x, hx, e⟩ := List.countP_pos_iff.mp h
  exact ⟨x, hx, of_decide_eq_true e⟩
abbrev Desc (L : List Int) : Prop := L.Pairwise fun a b => b ≤ a
theorem desc_one : ∀ {L L' : List Int}, Desc L → Desc L' → (∀ v, cge L v = cge L' v) → L = L'
  | [], [], _, _, _ => rfl
  | [], b :: l', _, _, h => by
    have := h b
    rw [cge_cons, if_pos (Int.le_refl b)] at this
    simp [cge] at this
  | a :: l, [], _, _, h => by
    have := h a
    rw [cge_cons, if_pos (Int.le_refl a)] at this
    simp [cge] at this
  | a :: l, b :: l', d, d', h => by
    have d1 := List.pairwise_cons.mp d
    have d2 := List.pairwise_cons.mp d'
    have h1 : a ≤ b := by
      have q := h a
      rw [cge_cons, if_pos (Int.le_refl a)] at q
      obtain ⟨x, hx, e⟩ := cge_pos (L := b :: l') (v := a) (by omega)
      rcases List.mem_cons.mp hx with rfl | hx
      · exact e
      · exact Int.le_trans e (d2.1 x hx)
    have h2 : b ≤ a := by
      have q := h b
      rw [cge_cons b, if_pos (Int.le_refl b)] at q
      obtain ⟨x, hx, e⟩ := cge_pos (L := a :: l) (v := b) (by omega)
      rcases List.mem_cons.mp hx with rfl | hx
      · exact e
      · exact Int.le_trans e (d1.1 x hx)
    have e : a = b := by omega
    subst e
    rw [desc_one d1.2 d2.2 fun v => by
      have q := h v
      rw [cge_cons, cge_cons] at q
      omega]
theorem cge_take : ∀ {D : List Int} (q : Nat) (v : Int), Desc D → cge (D.take q) v = min q (cge D v)
  | [], q, v, _ => by simp [cge]
  | a :: d, 0, v, _ => by simp [cge]
  | a :: d, q + 1, v, h => by
    have h1 := List.pairwise_cons.mp h
    rw [List.take_succ_cons, cge_cons, cge_cons, cge_take q v h1.2]
    by_cases hv : v ≤ a
    · rw [if_pos hv]; omega
    · rw [if_neg hv]
      have z : cge d v = 0 := cge_zero fun x hx => by
        have := h1.1 x hx
        omega
      rw [z]; omega
def IsTop (q : Nat) (vs L : List Int) : Prop := ∃ ys : List Int, ys.Perm vs ∧ ys.Pairwise (fun a b => a ≤ b) ∧ L = ys.reverse.take q
theorem IsTop.desc {q : Nat} {vs L : List Int} (h : IsTop q vs L) : Desc L := by
  obtain ⟨ys, _, s, rfl⟩ := h
  exact (List.pairwise_reverse.mpr s).sublist (List.take_sublist _ _)
theorem IsTop.cge {q : Nat} {vs L : List Int} (h : IsTop q vs L) (v : Int) : cge L v = min q (cge vs v) := by
  obtain ⟨ys, p, s, rfl⟩ := h
  rw [cge_take q v (List.pairwise_reverse.mpr s), cge_perm (List.reverse_perm ys) v, cge_perm p v]
theorem IsTop.len {q : Nat} {vs L : List Int} (h : IsTop q vs L) : L.length ≤ q := by
  obtain ⟨ys, _, _, rfl⟩ := h
  rw [List.length_take]; omega
/-- the matches' values, each so often, but at most q times -/
def flat (q : Nat) (M : ML) : List Int := M.flatMap fun p => match p.1 with
  | some v => List.replicate (min p.2.toNat q) v
  | none => []
def geI (v : Int) : Option Int → Int := ind fun o => match o with
  | some x => decide (v ≤ x)
  | none => false
theorem cge_replicate (n : Nat) (x v : Int) : Hs.cge (List.replicate n x) v = if v ≤ x then n else 0 := by
  unfold Hs.cge
  rw [List.countP_replicate]
  by_cases h : v ≤ x
  · rw [if_pos (decide_eq_true h), if_pos h]
  · rw [if_neg (by simp [h]), if_neg h]
theorem geI_nn (v : Int) (o : Option Int) : 0 ≤ geI v o := ind_nn _ _
theorem cge_flat (q : Nat) {M : ML} (hp : AllPos M) (v : Int) : min q (cge (flat q M) v) = min q (mu M (geI v)).toNat := by
  induction M with
  | nil => simp [flat, Hs.cge, mu_nil]
  | cons p M ih =>
    have ih := ih hp.tail
    have h0 : 0 ≤ mu M (geI v) := mu_nonneg hp.tail fun r _ => geI_nn v r.1
    have hp0 : 0 < p.2 := hp p List.mem_cons_self
    have e : flat q (p :: M) = (match p.1 with
      | some v => List.replicate (min p.2.toNat q) v
      | none => []) ++ flat q M := by unfold flat; rw [List.flatMap_cons]
    rw [e, cge_append, mu_cons]
    cases hx : p.1 with
    | none =>
      have g : geI v none = 0 := rfl
      rw [g, Int.mul_zero, Int.zero_add]
      show min q (cge [] v + _) = _
      have z : cge [] v = 0 := rfl
      rw [z, Nat.zero_add, ih]
    | some x =>
      show min q (cge (List.replicate (min p.2.toNat q) x) v + _) = _
      rw [cge_replicate]
      by_cases hv : v ≤ x
      · have g : geI v (some x) = 1 := if_pos (decide_eq_true hv)
        rw [if_pos hv, g, Int.mul_one]
        omega
      · have g : geI v (some x) = 0 := if_neg (by simp [hv])
        rw [if_neg hv, g, Int.mul_zero, Int.zero_add, Nat.zero_add, ih]
theorem top_cge {q : Nat} {M : ML} {L : List Int} (hp : AllPos M) (h : IsTop q (flat q M) L) (v : Int) : cge L v = min q (mu M (geI v)).toNat := by
  rw [h.cge, cge_flat q hp]
theorem top_one {q : Nat} {M M' : ML} {L L' : List Int} (e : Eqv M M') (hp : AllPos M) (hp' : AllPos M') (h : IsTop q (flat q M) L) (h' : IsTop q (flat q M') L') : L = L' :=
  desc_one h.desc h'.desc fun v => by rw [top_cge hp h, top_cge hp' h', e]
theorem top_take {q k : Nat} {M : ML} {L L' : List Int} (hp : AllPos M) (hk : q ≤ k) (h : IsTop q (flat q M) L) (h' : IsTop k (flat k M) L') : L = L'.take q :=
  desc_one h.desc (h'.desc.sublist (List.take_sublist _ _)) fun v => by
    rw [top_cge hp h, cge_take q v h'.desc, top_cge hp h']
    omega
theorem top_joined {q : Nat} {M M' : ML} {L L' J W : List Int} (hp : AllPos M) (hp' : AllPos M') (h : IsTop q (flat q M) L) (h' : IsTop q (flat q M') L') (hj : IsTop q (L ++ L') J) (hw : IsTop q (flat q (M ++ M')) W) : J = W :=
  desc_one hj.desc hw.desc fun v => by
    have h0 : 0 ≤ mu M (geI v) := mu_nonneg hp fun r _ => geI_nn v r.1
    have h1 : 0 ≤ mu M' (geI v) := mu_nonneg hp' fun r _ => geI_nn v r.1
    rw [hj.cge, cge_append, top_cge hp h, top_cge hp' h', top_cge (hp.app hp') hw, mu_append]
    omega
theorem mem_flat {q : Nat} {M : ML} {v : Int} (hq : 0 < q) (hp : AllPos M) : v ∈ flat q M ↔ v ∈ vals M := by
  rw [mem_vals]
  unfold flat
  rw [List.mem_flatMap]
  refine exists_congr fun p => and_congr_right fun hm => ?_
  have := hp p hm
  cases p.1 with
  | none => simp
  | some x =>
    show v ∈ List.replicate (min p.2.toNat q) x ↔ some x = some v
    rw [List.mem_replicate, Option.some.injEq]
    constructor
    · rintro ⟨_, rfl⟩; rfl
    · rintro rfl; exact ⟨by omega, rfl⟩
theorem top_head {q : Nat} {M : ML} {L : List Int} {o : Option Int} (hq : 0 < q) (hp : AllPos M) (h : IsTop q (flat q M) L) (ho : IsMax (vals M) o) : o = L.head? := by
  obtain ⟨ys, p, s, rfl⟩ := h
  have hm : ∀ v, v ∈ ys ↔ v ∈ vals M := fun v => by rw [p.mem_iff, mem_flat hq hp]
  refine isMax_one (ws := ys) (fun v => (hm v).symm) ho ?_
  have d : Desc ys.reverse := List.pairwise_reverse.mpr s
  cases e : ys.reverse with
  | nil =>
    have : ys = [] := List.reverse_eq_nil_iff.mp e
    rw [this]
    cases q <;> rfl
  | cons a l =>
    obtain ⟨k, rfl⟩ : ∃ k, q = k + 1 := ⟨q - 1, by omega⟩
    rw [List.take_succ_cons, List.head?_cons]
    rw [e] at d
    have d1 := List.pairwise_cons.mp d
    have mm : ∀ x, x ∈ ys ↔ x ∈ a :: l := fun x => by rw [← e, List.mem_reverse]
    refine ⟨(mm a).mpr List.mem_cons_self, fun x hx => ?_⟩
    rcases List.mem_cons.mp ((mm x).mp hx) with rfl | hx
    · exact Int.le_refl _
    · exact d1.1 x hx
end Hs
set_option Elab.async false
set_option linter.all false
namespace Hs
open PySem
/-! ### filters -/
abbrev Row := List (Option Int)
abbrev Tab := List (Row × Int)
inductive Side where
  | col (c : Str)
  | num (i : Int)
  deriving DecidableEq
inductive Cop where
  | lt | le | eq
  deriving DecidableEq
inductive Flt where
  | cmp (o : Cop) (a b : Side)
  | among (c : Str) (vs : List Int)
  | missing (c : Str)
  | fixed (b : Bool)
  | turned (f : Flt)
  | both (f g : Flt)
  | either (f g : Flt)
abbrev Env' := Str → Option Int
def Side.val (r : Env') : Side → Option Int
  | .col c => r c
  | .num i => some i
def Cop.so : Cop → Int → Int → Bool
  | .lt, a, b => decide (a < b)
  | .le, a, b => decide (a ≤ b)
  | .eq, a, b => decide (a = b)
def both3 (x y : Option Bool) : Option Bool := if x = some false then some false else if x = some true ∨ y = some false then y else none
def either3 (x y : Option Bool) : Option Bool := if x = some true then some true else if x = some false ∨ y = some true then y else none
def Flt.eval (r : Env') : Flt → Option Bool
  | .cmp o a b => match a.val r, b.val r with
    | some x, some y => some (o.so x y)
    | _, _ => none
  | .among c vs => (r c).map fun v => decide (v ∈ vs)
  | .missing c => some (decide (r c = none))
  | .fixed b => some b
  | .turned f => (f.eval r).map fun b => !b
  | .both f g => both3 (f.eval r) (g.eval r)
  | .either f g => either3 (f.eval r) (g.eval r)
def Side.neg : Side → Side
  | .col c => .col c
  | .num i => .num (0 - i)
def Flt.mir : Flt → Flt
  | .cmp o a b => .cmp o b.neg a.neg
  | .among c vs => .among c (vs.map fun v => 0 - v)
  | .missing c => .missing c
  | .fixed b => .fixed b
  | .turned f => .turned f.mir
  | .both f g => .both f.mir g.mir
  | .either f g => .either f.mir g.mir
def ng (o : Option Int) : Option Int := o.map fun v => 0 - v
def ngE (r : Env') : Env' := fun c => ng (r c)
theorem side_neg (r : Env') (a : Side) : a.neg.val (ngE r) = ng (a.val r) := by
  cases a <;> rfl
theorem so_neg (o : Cop) (a b : Int) : o.so (0 - b) (0 - a) = o.so a b := by
  cases o
  · show decide _ = decide _; exact decide_eq_decide.mpr (by omega)
  · show decide _ = decide _; exact decide_eq_decide.mpr (by omega)
  · show decide _ = decide _; exact decide_eq_decide.mpr (by omega)
theorem mem_neg {v : Int} {vs : List Int} : 0 - v ∈ vs.map (fun v => 0 - v) ↔ v ∈ vs := by
  rw [List.mem_map]
  constructor
  · rintro ⟨w, hw, e⟩
    have : w = v := by omega
    rw [← this]; exact hw
  · intro h; exact ⟨v, h, rfl⟩
theorem mir_eval (r : Env') : ∀ f : Flt, f.mir.eval (ngE r) = f.eval r
  | .cmp o a b => by
    show (match b.neg.val (ngE r), a.neg.val (ngE r) with | some x, some y => some (o.so x y) | _, _ => none) = _
    rw [side_neg, side_neg]
    show _ = (match a.val r, b.val r with | some x, some y => some (o.so x y) | _, _ => none)
    cases a.val r with
    | none => cases b.val r <;> rfl
    | some x =>
      cases b.val r with
      | none => rfl
      | some y => exact congrArg some (so_neg o x y)
  | .among c vs => by
    show (ng (r c)).map (fun v => decide (v ∈ vs.map fun v => 0 - v)) = (r c).map fun v => decide (v ∈ vs)
    cases r c with
    | none => rfl
    | some v => exact congrArg some (decide_eq_decide.mpr mem_neg)
  | .missing c => by
    show some (decide (ng (r c) = none)) = some (decide (r c = none))
    cases r c <;> rfl
  | .fixed b => rfl
  | .turned f => by show (f.mir.eval (ngE r)).map _ = (f.eval r).map _; rw [mir_eval r f]
  | .both f g => by show both3 _ _ = both3 _ _; rw [mir_eval r f, mir_eval r g]
  | .either f g => by show either3 _ _ = either3 _ _; rw [mir_eval r f, mir_eval r g]
theorem both_true {x y : Option Bool} : both3 x y = some true ↔ x = some true ∧ y = some true := by
  unfold both3
  rcases x with _ | _ | _ <;> rcases y with _ | _ | _ <;> simp
/-! ### rows by names -/
def at' (N : List Str) (r : Row) : Env' := fun c => match (N.zip r).lookup c with
  | some v => v
  | none => none
def ngR (r : Row) : Row := r.map ng
theorem at_neg : ∀ (N : List Str) (r : Row), at' N (ngR r) = ngE (at' N r)
  | [], r => by funext c; cases r <;> rfl
  | n :: N, [] => by funext c; rfl
  | n :: N, v :: r => by
    funext c
    have ih := congrFun (at_neg N r) c
    show (match List.lookup c ((n, ng v) :: N.zip (ngR r)) with | some v => v | none => none) = ng (match List.lookup c ((n, v) :: N.zip r) with | some v => v | none => none)
    rw [List.lookup_cons, List.lookup_cons]
    cases c == n with
    | true => rfl
    | false => exact ih
/-- what a row gives a question: its value in the column, if it matches -/
def sel (F : Flt) (N : List Str) (asked : Option Str) : Row → Option (Option Int) := fun r => if F.eval (at' N r) = some true then some (match asked with
  | some c => at' N r c
  | none => none) else none
def ms (F : Flt) (N : List Str) (asked : Option Str) (T : Tab) : ML := mt (sel F N asked) T
theorem ms_append (F : Flt) (N : List Str) (asked : Option Str) (T U : Tab) : ms F N asked (T ++ U) = ms F N asked T ++ ms F N asked U := mt_append _ _ _
theorem ms_pos {F : Flt} {N : List Str} {asked : Option Str} {T : Tab} (h : AllPos T) : AllPos (ms F N asked T) := mt_pos h
theorem ms_eqv {F : Flt} {N : List Str} {asked : Option Str} {T U : Tab} (h : Eqv T U) : Eqv (ms F N asked T) (ms F N asked U) := h.mt _
theorem mem_ms {F : Flt} {N : List Str} {asked : Option Str} {T : Tab} {p : Option Int × Int} : p ∈ ms F N asked T ↔ ∃ r, (r, p.2) ∈ T ∧ sel F N asked r = some p.1 := by
  unfold ms mt
  rw [List.mem_filterMap]
  constructor
  · rintro ⟨q, hq, e⟩
    obtain ⟨b, h1, h2⟩ := Option.map_eq_some_iff.mp e
    rw [← h2]
    exact ⟨q.1, hq, h1⟩
  · rintro ⟨r, hr, e⟩
    exact ⟨(r, p.2), hr, by rw [e]; rfl⟩
theorem sel_some {F : Flt} {N : List Str} {asked : Option Str} {r : Row} {o : Option Int} : sel F N asked r = some o ↔ F.eval (at' N r) = some true ∧ (match asked with
  | some c => at' N r c
  | none => none) = o := by
  unfold sel
  by_cases h : F.eval (at' N r) = some true
  · rw [if_pos h, Option.some.injEq]; exact ⟨fun e => ⟨h, e⟩, fun e => e.2⟩
  · rw [if_neg h]; exact ⟨fun e => (by cases e), fun e => absurd e.1 h⟩
/-! ### the law's questions, one by one -/
section
variable {F : Flt} {N : List Str} {c : Str} {T T1 T2 P1 P2 : Tab}
/-- one question over all blocks: as over one block of all -/
theorem two_eqv {asked : Option Str} (hW : Eqv T (P1 ++ P2)) (h1 : Eqv T1 P1) (h2 : Eqv T2 P2) : Eqv (ms F N asked T) (ms F N asked T1 ++ ms F N asked T2) := by
  rw [← ms_append]
  exact ms_eqv (hW.trans (h1.symm.app h2.symm))
theorem some_eqv {M M' : ML} (e : Eqv M M') (hp : AllPos M) (hp' : AllPos M') : (0 < M.length ↔ 0 < M'.length) := by
  have one : ∀ {M M' : ML}, Eqv M M' → AllPos M → 0 < M.length → 0 < M'.length := fun {M M'} e hp h => by
    cases M with
    | nil => cases h
    | cons p M =>
      obtain ⟨q, hq, _⟩ := e.mem hp (P := fun _ => true) (p := p) List.mem_cons_self rfl
      exact List.length_pos_of_mem hq
  exact ⟨one e hp, one e.symm hp'⟩
theorem many_eqv {M M' : ML} (e : Eqv M M') : many M = many M' := by rw [many_mu, many_mu, e]
theorem total_eqv {M M' : ML} (e : Eqv M M') : total M = total M' := by rw [total_mu, total_mu, e]
theorem many_append (M M' : ML) : many (M ++ M') = many M + many M' := by rw [many_mu, many_mu, many_mu, mu_append]
theorem total_append (M M' : ML) : total (M ++ M') = total M + total M' := by rw [total_mu, total_mu, total_mu, mu_append]
theorem many_nn {M : ML} (hp : AllPos M) : 0 ≤ many M := by
  rw [many_mu]; exact mu_nonneg hp fun _ _ => by decide
theorem many_some {M : ML} (hp : AllPos M) : 0 < many M ↔ 0 < M.length := by
  cases M with
  | nil => exact ⟨fun h => absurd h (by decide), fun h => absurd h (by decide)⟩
  | cons p M =>
    refine ⟨fun _ => Nat.succ_pos _, fun _ => ?_⟩
    have h0 := many_nn hp.tail
    have h1 := hp p List.mem_cons_self
    show 0 < ((p :: M).map fun p => p.2).sum
    rw [List.map_cons, List.sum_cons]
    have : 0 ≤ (M.map fun p => p.2).sum := h0
    omega
theorem vals_eqv_iff {M M' : ML} (e : Eqv M M') (hp : AllPos M) (hp' : AllPos M') (v : Int) : v ∈ vals M ↔ v ∈ vals M' := ⟨vals_eqv e hp, vals_eqv e.symm hp'⟩
/-- a filter and its opposite together -/
theorem many_opp (hp : AllPos T) (G : Flt) (hG : ∀ r, ¬ (F.eval r = some true ∧ G.eval r = some true)) : many (ms F N none T) + many (ms G N none T) ≤ mu T fun _ => 1 := by
  rw [many_mu, many_mu]
  unfold ms
  rw [mu_mt, mu_mt, ← mu_add]
  refine mu_le hp fun p _ => ?_
  show pull (sel F N none) _ p.1 + pull (sel G N none) _ p.1 ≤ 1
  unfold pull sel
  by_cases h1 : F.eval (at' N p.1) = some true
  · have h2 : ¬ G.eval (at' N p.1) = some true := fun h2 => hG _ ⟨h1, h2⟩
    rw [if_pos h1, if_neg h2]
    exact Int.le_refl _
  · rw [if_neg h1]
    by_cases h2 : G.eval (at' N p.1) = some true
    · rw [if_pos h2]; exact Int.le_refl _
    · rw [if_neg h2]; decide
theorem turned_opp (F : Flt) (r : Env') : ¬ (F.eval r = some true ∧ (Flt.turned F).eval r = some true) := by
  rintro ⟨h1, h2⟩
  have : (Flt.turned F).eval r = (F.eval r).map fun b => !b := rfl
  rw [this, h1] at h2
  cases h2
theorem many_all : many (ms (.fixed true) N none T) = mu T fun _ => 1 := by
  rw [many_mu]
  unfold ms
  rw [mu_mt]
  rfl
/-- the column at least l, at most g -/
def Flt.within (F : Flt) (c : Str) (l g : Int) : Flt := .both (.both F (.cmp .le (.col c) (.num g))) (.cmp .le (.num l) (.col c))
theorem le_true {r : Env'} {a b : Side} : (Flt.cmp .le a b).eval r = some true ↔ ∃ x y, a.val r = some x ∧ b.val r = some y ∧ x ≤ y := by
  show (match a.val r, b.val r with | some x, some y => some (Cop.so .le x y) | _, _ => none) = some true ↔ _
  cases a.val r with
  | none => simp
  | some x =>
    cases b.val r with
    | none => simp
    | some y => simp [Cop.so]
theorem lt_true {r : Env'} {a b : Side} : (Flt.cmp .lt a b).eval r = some true ↔ ∃ x y, a.val r = some x ∧ b.val r = some y ∧ x < y := by
  show (match a.val r, b.val r with | some x, some y => some (Cop.so .lt x y) | _, _ => none) = some true ↔ _
  cases a.val r with
  | none => simp
  | some x =>
    cases b.val r with
    | none => simp
    | some y => simp [Cop.so]
theorem within_true {l g : Int} {r : Env'} : (F.within c l g).eval r = some true ↔ F.eval r = some true ∧ ∃ v, r c = some v ∧ l ≤ v ∧ v ≤ g := by
  show both3 (both3 _ _) _ = some true ↔ _
  rw [both_true, both_true, le_true, le_true]
  constructor
  · rintro ⟨⟨h1, x, y, ex, ey, h2⟩, z, w, ez, ew, h3⟩
    have ex : r c = some x := ex
    have ey : some g = some y := ey
    have ez : some l = some z := ez
    have ew : r c = some w := ew
    rw [ex] at ew
    cases ew; cases ey; cases ez
    exact ⟨h1, _, ex, h3, h2⟩
  · rintro ⟨h1, v, e, h2, h3⟩
    exact ⟨⟨h1, v, g, e, rfl, h3⟩, l, v, rfl, e, h2⟩
theorem mem_vals_ms {v : Int} : v ∈ vals (ms F N (some c) T) ↔ ∃ r t, (r, t) ∈ T ∧ F.eval (at' N r) = some true ∧ at' N r c = some v := by
  rw [mem_vals]
  constructor
  · rintro ⟨p, hp, e⟩
    obtain ⟨r, hr, hs⟩ := mem_ms.mp hp
    obtain ⟨h1, h2⟩ := sel_some.mp hs
    exact ⟨r, p.2, hr, h1, h2.trans e⟩
  · rintro ⟨r, t, hr, h1, h2⟩
    exact ⟨(some v, t), mem_ms.mpr ⟨r, hr, sel_some.mpr ⟨h1, h2⟩⟩, rfl⟩
theorem nothing_above {g : Int} (hg : IsMax (vals (ms F N (some c) T)) (some g)) : ms (.both F (.cmp .lt (.num g) (.col c))) N none T = [] := by
  refine List.eq_nil_iff_forall_not_mem.mpr fun p hp => ?_
  obtain ⟨r, hr, hs⟩ := mem_ms.mp hp
  obtain ⟨h1, _⟩ := sel_some.mp hs
  obtain ⟨h2, h3⟩ := both_true.mp h1
  obtain ⟨x, y, ex, ey, h4⟩ := lt_true.mp h3
  have ex : some g = some x := ex
  cases ex
  have := hg.2 y (mem_vals_ms.mpr ⟨r, p.2, hr, h2, ey⟩)
  omega
theorem some_within {l g : Int} (hl : IsMin (vals (ms F N (some c) T)) (some l)) (hg : IsMax (vals (ms F N (some c) T)) (some g)) : 0 < (ms (F.within c l g) N none T).length := by
  obtain ⟨r, t, hr, h1, h2⟩ := mem_vals_ms.mp hg.1
  have hm : (none, t) ∈ ms (F.within c l g) N none T := mem_ms.mpr ⟨r, hr, sel_some.mpr ⟨within_true.mpr ⟨h1, g, h2, hl.2 g hg.1, Int.le_refl g⟩, rfl⟩⟩
  exact List.length_pos_of_mem hm
theorem total_within {l g : Int} (hl : IsMin (vals (ms F N (some c) T)) (some l)) (hg : IsMax (vals (ms F N (some c) T)) (some g)) : total (ms F N (some c) T) = total (ms (F.within c l g) N (some c) T) := by
  rw [total_mu, total_mu]
  unfold ms
  rw [mu_mt, mu_mt]
  refine mu_congr fun p hp => ?_
  unfold pull sel
  by_cases h1 : F.eval (at' N p.1) = some true
  · rw [if_pos h1]
    cases e : at' N p.1 c with
    | none =>
      have : ¬ (F.within c l g).eval (at' N p.1) = some true := fun q => by
        obtain ⟨_, v, ev, _⟩ := within_true.mp q
        rw [e] at ev; cases ev
      rw [if_neg this]
      show (at' N p.1 c).getD 0 = 0
      rw [e]; rfl
    | some v =>
      have hv : v ∈ vals (ms F N (some c) T) := mem_vals_ms.mpr ⟨p.1, p.2, hp, h1, e⟩
      rw [if_pos (within_true.mpr ⟨h1, v, e, hl.2 v hv, hg.2 v hv⟩)]
  · rw [if_neg h1, if_neg fun q => h1 (within_true.mp q).1]
theorem total_none (h : vals (ms F N (some c) T) = []) : total (ms F N (some c) T) = 0 := by
  unfold total
  have : ((ms F N (some c) T).filterMap fun p => p.1.map fun v => v * p.2) = [] := by
    refine List.eq_nil_iff_forall_not_mem.mpr fun x hx => ?_
    obtain ⟨p, hp, e⟩ := List.mem_filterMap.mp hx
    obtain ⟨v, ev, _⟩ := Option.map_eq_some_iff.mp e
    have := mem_vals.mpr ⟨p, hp, ev⟩
    rw [h] at this
    cases this
  rw [this]; rfl
/-! ### negated integers -/
def ngT (P : Tab) : Tab := P.map fun p => (ngR p.1, p.2)
theorem sel_neg {asked : Option Str} (r : Row) : sel F.mir N asked (ngR r) = (sel F N asked r).map ng := by
  unfold sel
  rw [at_neg, mir_eval]
  by_cases h : F.eval (at' N r) = some true
  · rw [if_pos h, if_pos h]
    cases asked <;> rfl
  · rw [if_neg h, if_neg h]; rfl
theorem ms_neg {asked : Option Str} (P : Tab) : ms F.mir N asked (ngT P) = (ms F N asked P).map fun p => (ng p.1, p.2) := by
  induction P with
  | nil => rfl
  | cons p P ih =>
    show mt _ ((ngR p.1, p.2) :: ngT P) = _
    unfold ms at ih ⊢
    rw [mt_cons, mt_cons, ih]
    have e : sel F.mir N asked (ngR p.1, p.2).1 = (sel F N asked p.1).map ng := sel_neg p.1
    rw [e]
    cases sel F N asked p.1 <;> rfl
theorem many_neg (M : ML) : many (M.map fun p => (ng p.1, p.2)) = many M := by
  unfold many
  rw [List.map_map]
  rfl
theorem total_neg (M : ML) : total M + total (M.map fun p => (ng p.1, p.2)) = 0 := by
  rw [total_mu, total_mu, mu_map, ← mu_add]
  have : mu M (fun a => a.getD 0 + (ng a).getD 0) = mu M fun _ => 0 := mu_congr fun p _ => by
    cases p.1 with
    | none => rfl
    | some v => show v + (0 - v) = 0; omega
  rw [this]
  clear this
  induction M with
  | nil => rfl
  | cons p M ih => rw [mu_cons, Int.mul_zero, Int.zero_add]; exact ih
theorem vals_neg (M : ML) : vals (M.map fun p => (ng p.1, p.2)) = (vals M).map fun v => - v := by
  induction M with
  | nil => rfl
  | cons p M ih =>
    unfold vals at ih ⊢
    rw [List.map_cons, List.filterMap_cons, List.filterMap_cons, ih]
    cases p.1 with
    | none => rfl
    | some v => show (0 - v) :: _ = (- v) :: _; rw [Int.zero_sub]
theorem least_neg {M : ML} {a b : Option Int} (ha : IsMin (vals M) a) (hb : IsMax (vals (M.map fun p => (ng p.1, p.2))) b) : b.map (fun v => 0 - v) = a := by
  rw [vals_neg] at hb
  have e := isMax_one (fun _ => Iff.rfl) hb (isMin_neg ha)
  rw [e]
  cases a with
  | none => rfl
  | some v => show some (0 - - v) = some v; rw [Int.zero_sub, Int.neg_neg]
end
end Hs
set_option Elab.async false
set_option linter.all false
set_option maxRecDepth 100000
set_option maxHeartbeats 4000000
/-! What the top leaves: the facts that the walks use. -/
namespace Hs
open PySem PySem.Spec PyProof.Rows L2
def fieldNames : List Str := ["own_columns", "own_constants", "own_links", "one", "other", "inner", "column", "test", "asked", "quota", "own_table", "rows", "width", "new_names", "by", "is_turned"]
def bltNames : List Str := (["isinstance", "len", "all", "sorted", "str", "int", "tuple", "list", "enumerate", "zip", "dict"] : List Str) ++ (["sum", "iter", "any", "max", "min", "abs", "repr", "set", "range", "bool", "super"] : List Str)
def fltC : Cl → Bool
  | .cFilter | .cCompared | .cLess | .cAtMost | .cSame | .cPicked | .cAmong | .cMissing | .cFixed | .cAlways | .cNever | .cTurned | .cJoined | .cBoth | .cEither => true
  | _ => false
/-- the file of the def's code is the top's -/
def codeTop (K : PySem.W.Frag) (P : Program) (f : Addr) : Prop := ∃ (oc : Value) (od : Option Addr) (fd : FuncData) (osl : Array (Option Value)) (c0 : Addr) (oc' : Value) (od' : Option Addr) (vs : Array Value) (osl' : Array (Option Value)) (file : Str) (tf : Tok),
  K.lookup f = some ⟨oc, od, .func fd, osl⟩ ∧ fd.code = .ref c0 ∧ K.lookup c0 = some ⟨oc', od', .fields vs, osl'⟩ ∧ vs[2]? = some (.str file tf) ∧ ((P.main.file : Str) == file) = true
def wordOf : Cl → Option Str
  | .cLess => some "<"
  | .cAtMost => some "<="
  | .cSame => some "="
  | .cBoth => some "and"
  | .cEither => some "or"
  | _ => none
def trueOf : Cl → Option Bool
  | .cAlways => some true
  | .cNever => some false
  | _ => none
def noDun : List Str := ["__rand__", "__ror__", "__radd__"]
def sfC : Cl → Bool
  | .cLots | .cLess | .cAtMost | .cSame | .cAmong | .cMissing | .cAlways | .cNever | .cTurned | .cBoth | .cEither => true
  | _ => false
/-- super().__init__ of an instance of the first class, said in the second one's __init__ -/
def supOf : Cl → Cl → Option Df
  | .cLess, .cCompared | .cAtMost, .cCompared | .cSame, .cCompared => some .dFilter_init
  | .cAmong, .cPicked | .cMissing, .cPicked | .cAlways, .cFixed | .cNever, .cFixed | .cTurned, .cTurned | .cBoth, .cJoined | .cEither, .cJoined => some .dFilter_init
  | .cAmong, .cAmong | .cMissing, .cMissing => some .dPicked_init
  | .cSome, .cSome | .cMany, .cMany | .cAtLeast, .cAtLeast | .cGreatest, .cOfColumn | .cLeast, .cOfColumn | .cTotal, .cOfColumn | .cTop, .cOfColumn => some .dQuestion_init
  | .cGreatest, .cGreatest | .cLeast, .cLeast | .cTotal, .cTotal | .cTop, .cTop => some .dOfColumn_init
  | _, _ => none
structure Txt (P : Program) (K : PySem.W.Frag) (mg : Str → Option Value) (A : Df → Addr) (B Z : Cl → Addr) : Prop where
  dk : ∀ d, DefK K d.nm d.qual d.st (clo Z d) (A d)
  isF : ∀ d, PySem.W.isFn K (.ref (A d)) = true
  fi : ∀ d, PySem.W.fnIn K (A d) = true
  gf : ∀ d, PySem.W.specialIn K (.ref (A d)) "__get__" = some (some (.builtin "function.__get__"))
  tk : ∀ d, PySem.W.takesIn K (.ref (A d)) = some false
  ty : ∀ d, PySem.W.typeIn K (.ref (A d)) = some (.type "function")
  cod : ∀ d, codeTop K P (A d)
  cell : ∀ c, (∃ d : Df, d.sup = some c) → ∃ (oc : Value) (od : Option Addr) (osl : Array (Option Value)), K.lookup (Z c) = some ⟨oc, od, .cell (some (.ref (B c))), osl⟩
  cin : ∀ c, (PySem.W.clsIn K (B c)).isSome = true
  gD : ∀ d, d.qual = d.nm → mg d.nm = some (.ref (A d))
  gC : ∀ c, mg c.nm = some (.ref (B c))
  blt : ∀ n, n ∈ bltNames → mg n = none
  supTop : (P.main.scope.names.lookup ("super" : Str)).isSome = false
  anyN : PySem.W.nsIn K cStatics "thirdparty.any" = some none
  cls : ∀ c, Cls K (B c)
  no : ∀ c f, f ∈ fieldNames → NoAttr K (B c) f
  fnd : ∀ c m d, look c m = some d → PySem.W.findIn K (.ref (B c)) m.nm = some (some (.ref (A d)))
  mks : ∀ c, PySem.W.makesIn K (B c) = true ∧ PySem.W.keepIn K (.ref (B c)) = true
  ic : ∀ c, PySem.W.findIn K (.ref (B c)) "__class__" = some (some (.builtin "object.__class__")) ∧ PySem.W.mroIn K (B c) (.type "object") = some true
  icg : PySem.W.specialIn K (.builtin "object.__class__") "__get__" = some (some (.builtin "getset_descriptor.__get__")) ∧ PySem.W.takesIn K (.builtin "object.__class__") = some true
  isFlt : ∀ c, fltC c = true → PySem.W.kitOne K (.ref (B c)) (.ref (B .cFilter)) = some true
  isLot : PySem.W.kitOne K (.ref (B .cLots)) (.ref (B .cLots)) = some true
  word : ∀ c z, wordOf c = some z → ∃ t, PySem.W.findIn K (.ref (B c)) "WORD" = some (some (.str z t)) ∧ PySem.W.specialIn K (.str z t) "__get__" = some none
  tru : ∀ c b, trueOf c = some b → PySem.W.findIn K (.ref (B c)) "IS_TRUE" = some (some (.bool b)) ∧ PySem.W.specialIn K (.bool b) "__get__" = some none
  prop : ∀ (n : Str) (d : Df), (n, d) ∈ [(("columns" : Str), Df.dFilter_columns), ("constants", .dFilter_constants), ("links", .dFilter_links)] → ∃ p, ∀ c, fltC c = true → PropR K (B c) n p (A d)
  propQ : ∃ p, ∀ c, c ∈ [Cl.cSome, .cMany, .cAtLeast, .cGreatest, .cLeast, .cTotal, .cTop] → PropR K (B c) "columns" p (A .dQuestion_columns)
  selfF : ∀ c, sfC c = true → PySem.W.selfFirst K (B c) = true
  dunN : ∀ c n, sfC c = true → n ∈ noDun → PySem.W.findIn K (.ref (B c)) n = some none
  subN : ∀ c c', sfC c = true → sfC c' = true → B c' ≠ B c → PySem.W.subIn K (.ref (B c')) (.ref (B c)) = some false
  inj : ∀ c c', B c = B c' → c = c'
  sup : ∀ C D d, supOf C D = some d → PySem.W.mroIn K (B C) (.ref (B D)) = some true ∧ PySem.W.ks_superIn K (B C) (B D) "__init__" = some (some (.ref (A d)))
  gMost : ∃ t1 t2 t3 t4 t5 t6 t7, mg "MOST_LETTERS" = some (.int 8 t1) ∧ mg "MOST_COMPARISONS" = some (.int 8 t2) ∧ mg "MOST_CONSTANTS" = some (.int 4 t3) ∧ mg "MOST_WIDTH" = some (.int 3 t4) ∧ mg "MOST_PAIRS" = some (.int 40 t5) ∧ mg "MOST_COLUMNS" = some (.int 3 t6) ∧ mg "MOST_TOP" = some (.int 4 t7)
  gLet : ∃ t, mg "LETTERS" = some (.str "abcdefghijklmnopqrstuvwxyz" t)
  gWords : ∃ a, mg "WORDS" = some (.ref a) ∧ ∀ H : Hp, SqT K H a [.str "always", .str "and", .str "in", .str "never", .str "not", .str "null", .str "or", .str "rows", .str "self"]
section
variable {P : Program} {w : World} {K : PySem.W.Frag} {mg : Str → Option Value} {base : Heap} {A : Df → Addr} {B Z : Cl → Addr}
theorem Txt.d0 (T : Txt P K mg A B Z) (d : Df) (h : d.sup = none := by rfl) : DefK K d.nm d.qual d.st [] (A d) := by
  have := T.dk d
  unfold clo at this
  rw [h] at this
  exact this
theorem len1 {α : Type} {us : List α} (h : us.length = 1) : ∃ a, us = [a] := List.length_eq_one_iff.mp h
theorem len2 {α : Type} {us : List α} (h : us.length = 2) : ∃ a b, us = [a, b] := by
  match us, h with
  | [a, b], _ => exact ⟨a, b, rfl⟩
theorem len3 {α : Type} {us : List α} (h : us.length = 3) : ∃ a b c, us = [a, b, c] := by
  match us, h with
  | [a, b, c], _ => exact ⟨a, b, c, rfl⟩
theorem len4 {α : Type} {us : List α} (h : us.length = 4) : ∃ a b c d, us = [a, b, c, d] := by
  match us, h with
  | [a, b, c, d], _ => exact ⟨a, b, c, d, rfl⟩
theorem len5 {α : Type} {us : List α} (h : us.length = 5) : ∃ a b c d e, us = [a, b, c, d, e] := by
  match us, h with
  | [a, b, c, d, e], _ => exact ⟨a, b, c, d, e, rfl⟩
def oB : Option Bool → V
  | none => .non
  | some b => .bl b
def oV : Option Int → V
  | none => .non
  | some i => .int i
/-- a value in, a value out, the heap at most larger -/
def spV (g : V → V → Prop) : Sp := fun vs H Q _ => ∃ x, vs = [x] ∧ ∀ y H', g x y → Ex H H' → Q y H'
def spNotOf : Sp := fun vs H Q _ => ∃ o, vs = [oB o] ∧ Q (oB (o.map fun b => !b)) H
theorem sc_not_of : FnScope ["truth"] ["truth"] (defScope (Df.st .dnot_of)) := ⟨rfl, rfl, rfl, by decide +kernel, rfl, by decide +kernel, by decide +kernel⟩
theorem ok_not_of (T : Txt P K mg A B Z) : FnR P w K mg base CX0 1 (A .dnot_of) spNotOf := by
  refine (T.d0 .dnot_of).fn sc_not_of (fun _ _ _ _ _ _ us h => by obtain ⟨a, rfl⟩ := len1 h; rfl) (fun vs H Q E h => by obtain ⟨o, rfl, _⟩ := h; rfl) fun cdv Ar outer s H vs Q E hr h => ?_
  obtain ⟨o, rfl, q⟩ := h
  refine ⟨_, pss_one (ps_ret (pe_ifExp (pt_cmp (pc_isN (pv 0))) pe_non (pe_notT (pv 0)))), ?_⟩
  refine ⟨_, rfl, _, rfl, ?_⟩
  cases o with
  | none => exact iteT q
  | some b => exact iteF ⟨_, rfl, b, rfl, q⟩
end
end Hs
set_option Elab.async false
set_option linter.all false
set_option maxRecDepth 100000
set_option maxHeartbeats 4000000
/-! The facts of the objects at the run's end. -/
namespace Hs
open PySem PySem.Spec PyProof.Rows L2
abbrev PR : Program := PySem.Challenge.pw_headskip_k60_whole_questions_go_together
abbrev OV := Option (Option Value)
def eqq (a b : OV) : Bool := decide (a = b)
theorem eqq_ok {a b : OV} (h : eqq a b = true) : a = b := of_decide_eq_true h
theorem df_all (d : Df) : d ∈ Df.all := by cases d <;> decide +kernel
theorem cl_all (c : Cl) : c ∈ Cl.all := by cases c <;> decide +kernel
theorem mt_all (m : Mt) : m ∈ Mt.all := by cases m <;> decide +kernel
theorem all_d {p : Df → Bool} (h : Df.all.all p = true) (d : Df) : p d = true := List.all_eq_true.mp h d (df_all d)
theorem all_c {p : Cl → Bool} (h : Cl.all.all p = true) (c : Cl) : p c = true := List.all_eq_true.mp h c (cl_all c)
section
variable (P : Params)
theorem f_look (d : Df) : (frK P).lookup (aA d) = some (fo d) := by cases d <;> kernel_rfl
theorem k_isF : (Df.all.all fun d => PySem.W.isFn (frK P) (.ref (aA d))) = true := by kernel_rfl
theorem k_cod : (Df.all.all fun d => PySem.W.codeIn (frK P) (.ref (fr d).c0) d.qual) = true := by kernel_rfl
theorem k_gf : eqq (PySem.W.findIn (frK P) (.type "function") "__get__") (some (some (.builtin "function.__get__"))) = true := by kernel_rfl
theorem k_tk : (Df.all.all fun d => decide (PySem.W.takesIn (frK P) (.ref (aA d)) = some false)) = true := by kernel_rfl
def topB (P : Params) (c0 : Addr) : Bool := match (frK P).lookup c0 with
  | some ⟨_, _, .fields vs, _⟩ => (match (vs[2]? : Option Value) with
    | some (.str file _) => (PR.main.file : Str) == file
    | _ => false)
  | _ => false
theorem k_top : (Df.all.all fun d => topB P (fr d).c0) = true := by kernel_rfl
def supC (c : Cl) : Bool := Df.all.any fun d => decide (d.sup = some c)
def celB (P : Params) (c : Cl) : Bool := match (frK P).lookup (aZ c) with
  | some ⟨_, _, .cell (some (.ref a)), _⟩ => a == aB c
  | _ => false
theorem k_cel : (Cl.all.all fun c => !supC c || celB P c) = true := by kernel_rfl
theorem k_cin : (Cl.all.all fun c => (PySem.W.clsIn (frK P) (aB c)).isSome) = true := by kernel_rfl
theorem k_gD : (Df.all.all fun d => !decide (d.qual = d.nm) || eqq (PySem.W.nsIn (frK P) mainGlobals d.nm) (some (some (.ref (aA d))))) = true := by kernel_rfl
theorem k_gC : (Cl.all.all fun c => eqq (PySem.W.nsIn (frK P) mainGlobals c.nm) (some (some (.ref (aB c))))) = true := by kernel_rfl
theorem k_blt : (bltNames.all fun n => eqq (PySem.W.nsIn (frK P) mainGlobals n) (some none)) = true := by kernel_rfl
theorem k_any : PySem.W.nsIn (frK P) cStatics "thirdparty.any" = some none := by kernel_rfl
def clsB (P : Params) (C : Addr) : Bool := PySem.W.plainGet (frK P) C Str.empty && (PySem.W.hasDictIn (frK P) C && (PySem.W.plainOver (frK P) C && eqq (PySem.W.findIn (frK P) (.ref C) "__setattr__") (some (some (.builtin "object.__setattr__")))))
theorem k_cls : (Cl.all.all fun c => clsB P (aB c)) = true := by kernel_rfl
theorem k_no : (Cl.all.all fun c => fieldNames.all fun f => eqq (PySem.W.findIn (frK P) (.ref (aB c)) f) (some none)) = true := by kernel_rfl
def fndB (P : Params) (c : Cl) (m : Mt) : Bool := match look c m with
  | none => true
  | some d => eqq (PySem.W.findIn (frK P) (.ref (aB c)) m.nm) (some (some (.ref (aA d))))
theorem k_fnd : (Cl.all.all fun c => Mt.all.all fun m => fndB P c m) = true := by kernel_rfl
theorem k_mks : (Cl.all.all fun c => PySem.W.makesIn (frK P) (aB c) && PySem.W.keepIn (frK P) (.ref (aB c))) = true := by kernel_rfl
theorem k_ic : (Cl.all.all fun c => eqq (PySem.W.findIn (frK P) (.ref (aB c)) "__class__") (some (some (.builtin "object.__class__"))) && decide (PySem.W.mroIn (frK P) (aB c) (.type "object") = some true)) = true := by kernel_rfl
theorem k_icg : (eqq (PySem.W.specialIn (frK P) (.builtin "object.__class__") "__get__") (some (some (.builtin "getset_descriptor.__get__"))) && decide (PySem.W.takesIn (frK P) (.builtin "object.__class__") = some true)) = true := by kernel_rfl
theorem k_flt : (Cl.all.all fun c => !fltC c || decide (PySem.W.kitOne (frK P) (.ref (aB c)) (.ref (aB .cFilter)) = some true)) = true := by kernel_rfl
theorem k_lot : PySem.W.kitOne (frK P) (.ref (aB .cLots)) (.ref (aB .cLots)) = some true := by kernel_rfl
def wordB (P : Params) (c : Cl) : Bool := match wordOf c with
  | none => true
  | some z => (match PySem.W.findIn (frK P) (.ref (aB c)) "WORD" with
    | some (some (.str y t)) => decide (y = z) && eqq (PySem.W.specialIn (frK P) (.str y t) "__get__") (some none)
    | _ => false)
theorem k_word : (Cl.all.all fun c => wordB P c) = true := by kernel_rfl
def truB (P : Params) (c : Cl) : Bool := match trueOf c with
  | none => true
  | some b => eqq (PySem.W.findIn (frK P) (.ref (aB c)) "IS_TRUE") (some (some (.bool b))) && eqq (PySem.W.specialIn (frK P) (.bool b) "__get__") (some none)
theorem k_tru : (Cl.all.all fun c => truB P c) = true := by kernel_rfl
def propB (P : Params) (C : Addr) (f : Str) (p g : Addr) : Bool := eqq (PySem.W.findIn (frK P) (.ref C) f) (some (some (.ref p))) && (eqq (PySem.W.specialIn (frK P) (.ref p) "__get__") (some (some (.builtin "property.__get__"))) &&
  (decide (PySem.W.takesIn (frK P) (.ref p) = some true) && match PySem.W.recIn (frK P) p "property" with
    | some (.ref a :: _) => a == g
    | _ => false))
theorem prop_ok {P : Params} {C p g : Addr} {f : Str} (h : propB P C f p g = true) : PropR (frK P) C f p g := by
  unfold propB at h
  rw [Bool.and_eq_true, Bool.and_eq_true, Bool.and_eq_true] at h
  obtain ⟨h1, h2, h3, h4⟩ := h
  refine ⟨eqq_ok h1, eqq_ok h2, of_decide_eq_true h3, ?_⟩
  split at h4
  · rename_i a r e
    rw [e, beq_iff_eq.mp h4]
    exact ⟨r, rfl⟩
  · cases h4
def propL : List (Str × Df × Addr) := [("columns", .dFilter_columns, 517), ("constants", .dFilter_constants, 525), ("links", .dFilter_links, 533)]
theorem k_prop : (propL.all fun q => Cl.all.all fun c => !fltC c || propB P (aB c) q.1 q.2.2 (aA q.2.1)) = true := by kernel_rfl
def qsC : List Cl := [.cSome, .cMany, .cAtLeast, .cGreatest, .cLeast, .cTotal, .cTop]
theorem k_propQ : (qsC.all fun c => propB P (aB c) "columns" 1368 (aA .dQuestion_columns)) = true := by kernel_rfl
theorem k_selfF : (Cl.all.all fun c => !sfC c || PySem.W.selfFirst (frK P) (aB c)) = true := by kernel_rfl
theorem k_dun : (Cl.all.all fun c => !sfC c || noDun.all fun n => eqq (PySem.W.findIn (frK P) (.ref (aB c)) n) (some none)) = true := by kernel_rfl
theorem k_sub : (Cl.all.all fun c => Cl.all.all fun d => !(sfC c && sfC d) || (aB d == aB c || decide (PySem.W.subIn (frK P) (.ref (aB d)) (.ref (aB c)) = some false))) = true := by kernel_rfl
def supB (P : Params) (C D : Cl) : Bool := match supOf C D with
  | none => true
  | some d => decide (PySem.W.mroIn (frK P) (aB C) (.ref (aB D)) = some true) && eqq (PySem.W.ks_superIn (frK P) (aB C) (aB D) "__init__") (some (some (.ref (aA d))))
theorem k_sup : (Cl.all.all fun C => Cl.all.all fun D => supB P C D) = true := by kernel_rfl
end
end Hs
set_option Elab.async false
set_option linter.all false
set_option maxRecDepth 100000
set_option maxHeartbeats 4000000
/-! The facts gathered. -/
namespace Hs
open PySem PySem.Spec PyProof.Rows L2
theorem ands {a b : Bool} (h : (a && b) = true) : a = true ∧ b = true := Bool.and_eq_true_iff.mp h
theorem impb {a b : Bool} (h : (!a || b) = true) (e : a = true) : b = true := by
  rw [e] at h
  exact h
theorem most_of {P : Params} {h : Heap} {mg : Str → Option Value} (X : (frK P).In h) (G : h.Ns mainGlobals mg) {n : Str} {i : Int} {t : Tok} (e : PySem.W.nsIn (frK P) mainGlobals n = some (some (.int i t))) : mg n = some (.int i t) := PySem.W.mg_of X G e
theorem words_look (P : Params) : (frK P).lookup 266 = some ⟨.type "tuple", none, .seq #[.str (.ofString "always") 521, .str (.ofString "and") 522, .str (.ofString "in") 523, .str (.ofString "never") 524, .str (.ofString "not") 525, .str (.ofString "null") 526, .str (.ofString "or") 527, .str (.ofString "rows") 528, .str (.ofString "self") 529] 0, #[]⟩ := by kernel_rfl
theorem txt_of {P : Params} {h : Heap} {mg : Str → Option Value} (X : (frK P).In h) (G : h.Ns mainGlobals mg) : Txt PR (frK P) mg aA aB aZ where
  dk d := ⟨⟨_, _, _, _, _, _, _, _, _, f_look P d, all_d (k_cod P) d⟩, by
    show (match (frK P).lookup (aA d) with
      | some ⟨_, _, .func _, _⟩ => true
      | some ⟨_, _, .cls _, _⟩ => PySem.W.specialIn (frK P) (.ref (aA d)) "__call__" == some (some (.builtin "type.__call__"))
      | _ => false) = true
    rw [f_look]; rfl⟩
  isF d := all_d (k_isF P) d
  fi d := by
    show (match (frK P).lookup (aA d) with
      | some ⟨_, _, .func _, _⟩ => true
      | _ => false) = true
    rw [f_look]; rfl
  gf d := by
    show (((frK P).lookup (aA d)).map (·.cls)).bind (fun t => PySem.W.findIn (frK P) t "__get__") = _
    rw [f_look]
    exact eqq_ok (k_gf P)
  tk d := of_decide_eq_true (all_d (k_tk P) d)
  ty d := by
    show ((frK P).lookup (aA d)).map (·.cls) = _
    rw [f_look]; rfl
  cod d := by
    have h1 := all_d (k_top P) d
    unfold topB at h1
    split at h1
    · rename_i oc od vs osl e
      split at h1
      · rename_i file tf e2
        exact ⟨_, _, _, _, _, _, _, _, _, file, tf, f_look P d, rfl, e, e2, h1⟩
      · cases h1
    · cases h1
  cell c hc := by
    have h1 := all_c (k_cel P) c
    have hs : supC c = true := by
      obtain ⟨d, hd⟩ := hc
      exact List.any_eq_true.mpr ⟨d, df_all d, decide_eq_true hd⟩
    have h2 := impb h1 hs
    unfold celB at h2
    split at h2
    · rename_i oc od a osl e
      rw [e, beq_iff_eq.mp h2]
      exact ⟨_, _, _, rfl⟩
    · cases h2
  cin c := all_c (k_cin P) c
  gD d e := by
    have h1 := all_d (k_gD P) d
    exact PySem.W.mg_of X G (eqq_ok (impb h1 (decide_eq_true e)))
  gC c := PySem.W.mg_of X G (eqq_ok (all_c (k_gC P) c))
  blt n hn := PySem.W.mg_none_of X G (eqq_ok (List.all_eq_true.mp (k_blt P) n hn))
  supTop := by kernel_rfl
  anyN := k_any P
  cls c := by
    have h1 := all_c (k_cls P) c
    obtain ⟨h1, h2⟩ := ands h1
    obtain ⟨h2, h3⟩ := ands h2
    obtain ⟨h3, h4⟩ := ands h3
    exact ⟨h1, h2, h3, eqq_ok h4⟩
  no c f hf := eqq_ok (List.all_eq_true.mp (all_c (k_no P) c) f hf)
  fnd c m d e := by
    have h1 := List.all_eq_true.mp (all_c (k_fnd P) c) m (mt_all m)
    unfold fndB at h1
    rw [e] at h1
    exact eqq_ok h1
  mks c := ands (all_c (k_mks P) c)
  ic c := by
    obtain ⟨h1, h2⟩ := ands (all_c (k_ic P) c)
    exact ⟨eqq_ok h1, of_decide_eq_true h2⟩
  icg := by
    obtain ⟨h1, h2⟩ := ands (k_icg P)
    exact ⟨eqq_ok h1, of_decide_eq_true h2⟩
  isFlt c e := of_decide_eq_true (impb (all_c (k_flt P) c) e)
  isLot := k_lot P
  word c z e := by
    have h1 : (match PySem.W.findIn (frK P) (.ref (aB c)) "WORD" with
      | some (some (.str y t)) => decide (y = z) && eqq (PySem.W.specialIn (frK P) (.str y t) "__get__") (some none)
      | _ => false) = true := by
      have h0 := all_c (k_word P) c
      unfold wordB at h0
      rw [e] at h0
      exact h0
    split at h1
    · rename_i y t q
      obtain ⟨h2, h3⟩ := ands h1
      have h2 := of_decide_eq_true h2
      subst h2
      exact ⟨t, q, eqq_ok h3⟩
    · cases h1
  tru c b e := by
    have h1 := all_c (k_tru P) c
    unfold truB at h1
    rw [e] at h1
    obtain ⟨h2, h3⟩ := ands h1
    exact ⟨eqq_ok h2, eqq_ok h3⟩
  prop n d hm := by
    have key := k_prop P
    have k2 : ∀ q, q ∈ propL → ∀ c, fltC c = true → PropR (frK P) (aB c) q.1 q.2.2 (aA q.2.1) := fun q hq c hc => prop_ok (impb (all_c (List.all_eq_true.mp key q hq) c) hc)
    rcases List.mem_cons.mp hm with e | hm
    · cases e; exact ⟨517, k2 ("columns", .dFilter_columns, 517) (by unfold propL; simp)⟩
    rcases List.mem_cons.mp hm with e | hm
    · cases e; exact ⟨525, k2 ("constants", .dFilter_constants, 525) (by unfold propL; simp)⟩
    · rw [List.mem_singleton] at hm
      cases hm; exact ⟨533, k2 ("links", .dFilter_links, 533) (by unfold propL; simp)⟩
  propQ := ⟨1368, fun c hc => prop_ok (List.all_eq_true.mp (k_propQ P) c hc)⟩
  selfF c e := impb (all_c (k_selfF P) c) e
  dunN c n e hn := eqq_ok (List.all_eq_true.mp (impb (all_c (k_dun P) c) e) n hn)
  subN c c' e e' ne := by
    have h1 := all_c (all_c (k_sub P) c) c'
    have h2 := impb h1 (by rw [e, e']; rfl)
    rcases Bool.or_eq_true_iff.mp h2 with h | h
    · exact absurd (beq_iff_eq.mp h) ne
    · exact of_decide_eq_true h
  inj c c' e := by
    have key : (Cl.all.all fun c => Cl.all.all fun d => !(aB c == aB d) || decide (c = d)) = true := by decide +kernel
    exact of_decide_eq_true (impb (all_c (all_c key c) c') (beq_iff_eq.mpr e))
  sup C D d e := by
    have h1 := all_c (all_c (k_sup P) C) D
    unfold supB at h1
    rw [e] at h1
    obtain ⟨h2, h3⟩ := ands h1
    exact ⟨of_decide_eq_true h2, eqq_ok h3⟩
  gMost := ⟨519, 817, 819, 1603, 1601, 1897, 1899, most_of X G (by kernel_rfl), most_of X G (by kernel_rfl), most_of X G (by kernel_rfl), most_of X G (by kernel_rfl), most_of X G (by kernel_rfl), most_of X G (by kernel_rfl), most_of X G (by kernel_rfl)⟩
  gLet := ⟨517, PySem.W.mg_of X G (v := .str (.ofString "abcdefghijklmnopqrstuvwxyz") 517) (by kernel_rfl)⟩
  gWords := ⟨266, PySem.W.mg_of X G (by kernel_rfl), fun H => .inr ⟨_, _, 0, words_look P, rfl, rfl, by rw [sizeLine_eq]; decide, .cons ⟨_, rfl⟩ (.cons ⟨_, rfl⟩ (.cons ⟨_, rfl⟩ (.cons ⟨_, rfl⟩ (.cons ⟨_, rfl⟩ (.cons ⟨_, rfl⟩ (.cons ⟨_, rfl⟩ (.cons ⟨_, rfl⟩ (.cons ⟨_, rfl⟩ .nil))))))))⟩⟩
end Hs
set_option Elab.async false
set_option linter.all false
set_option maxRecDepth 100000
set_option maxHeartbeats 4000000
/-! names: is_name, is_integer, is_value, is_below. -/
namespace Hs
open PySem PySem.Spec PyProof.Rows L2
def allN : List Str := ["x", "y", "a", "zz"]
def letters : Str := "abcdefghijklmnopqrstuvwxyz"
/-- isinstance(e, n), n a built-in class -/
def tIsT (K : PySem.W.Frag) (n : String) (te : TE) : TE := fun σ H Q => te σ H fun x H1 => ∃ t b, TyX K H1 x t ∧ PySem.W.kitOne K t (.type n) = some b ∧ Q (.bl b) H1
section
variable {X : Cx}
theorem pe_isT {e : Expr} {te : TE} {n : String} {y : Str} {p p2 pos : Pos} (he : PE X e te) (hg : Gl X "isinstance") (hm : X.mg "isinstance" = none) (hg2 : Gl X y) (hm2 : X.mg y = none) (hv : bootBuiltins y = some (.type n)) (hn : y ≠ "__name__" := by decide) (hdb : (y == ("__debug__" : Str)) = false := by decide)
    (hst : starEach [e, .Name y p2] X.env = (false, eval e X.env) :: starEach [.Name y p2] X.env := by rfl) (hst2 : starEach [.Name y p2] X.env = (false, eval (.Name y p2) X.env) :: starEach [] X.env := by rfl)
    (hpl : (backTo pos (starEach [.Name y p2] X.env)).any (·.1) = false := by rfl) : PE X (.Call (.Name "isinstance" p) [e, .Name y p2] [] pos) (tIsT X.K n te) := by
  refine ⟨fun pins s σ H Q I h => ?_⟩
  refine wpAny_Call_Name_kw (ld_blt (u := .builtin "isinstance") I hg hm (by decide +kernel) ?_ (by decide) (by decide))
  have ha : PA X [e, .Name y p2] (tCons te (tCons (tC (.ty n)) tNil)) := pa_cons he (pa_cons (pe_bltn (v := .ty n) hg2 hm2 hv rfl hn hdb) pa_nil hst2) hst
  refine PyProof.Rows.callWith_builtin1 (thn (ha.run pos pins s σ H (fun vs H1 => match vs with
    | [x, .ty m] => ∃ t b, TyX X.K H1 x t ∧ PySem.W.kitOne X.K t (.type m) = some b ∧ Q (.bl b) H1
    | _ => False) I h) fun us s1 ⟨vs, H1, I1, r1, q1⟩ => ?_) hst hpl
  dsimp only at q1
  split at q1
  · obtain ⟨t, b, h1, h2, q⟩ := q1
    exact call_isi pins s1 σ H1 _ us Q I1 r1 ⟨_, _, t, _, b, rfl, .ty _, h1, h2, q⟩
  · exact False.elim q1
end
def tyN : V → String
  | .non => "NoneType"
  | .bl _ => "bool"
  | .int _ => "int"
  | _ => "str"
section
variable {P : Program} {w : World} {K : PySem.W.Frag} {mg : Str → Option Value} {base : Heap} {A : Df → Addr} {B Z : Cl → Addr}
def spIsName : Sp := fun vs H Q _ => ∃ x, vs = [x] ∧ ((∃ n, x = .str n ∧ n ∈ allN ∧ ∀ H', Ex H H' → Q (.bl true) H') ∨ (∃ i, x = .int i ∧ Q (.bl false) H))
theorem k_str_str : PySem.W.kitOne K (.type "str") (.type "str") = some true := kit_ty (by decide +kernel)
theorem k_int_str : PySem.W.kitOne K (.type "int") (.type "str") = some false := kit_ty (by decide +kernel)
theorem k_int_int : PySem.W.kitOne K (.type "int") (.type "int") = some true := kit_ty (by decide +kernel)
theorem k_str_int : PySem.W.kitOne K (.type "str") (.type "int") = some false := kit_ty (by decide +kernel)
theorem k_int_bool : PySem.W.kitOne K (.type "int") (.type "bool") = some false := kit_ty (by decide +kernel)
theorem k_tup_tup : PySem.W.kitOne K (.type "tuple") (.type "tuple") = some true := kit_ty (by decide +kernel)
theorem allN_ok {n : Str} (h : n ∈ allN) : n.length ≤ sizeLine ∧ 1 ≤ ((n.length : Nat) : Int) ∧ ((n.length : Nat) : Int) ≤ 8 ∧ inV (.str n) [.str "always", .str "and", .str "in", .str "never", .str "not", .str "null", .str "or", .str "rows", .str "self"] = false ∧
    ∀ (i c : Nat), n.cps[i]? = some c → c ∈ letters.cps.toList := by
  have key : ∀ n ∈ allN, n.length ≤ 100 ∧ 1 ≤ ((n.length : Nat) : Int) ∧ ((n.length : Nat) : Int) ≤ 8 ∧ inV (.str n) [.str "always", .str "and", .str "in", .str "never", .str "not", .str "null", .str "or", .str "rows", .str "self"] = false ∧
    ∀ c ∈ n.cps.toList, c ∈ letters.cps.toList := by decide +kernel
  obtain ⟨h1, h2, h3, h4, h5⟩ := key n h
  exact ⟨Nat.le_trans h1 (by rw [sizeLine_eq]; decide), h2, h3, h4, fun i c e => h5 c (Array.mem_toList_iff.mpr (Array.mem_of_getElem? e))⟩
theorem sc_is_name : FnScope ["value", "letter"] ["value"] (defScope (Df.st .dis_name)) := ⟨rfl, rfl, rfl, by decide +kernel, rfl, by decide +kernel, by decide +kernel⟩
theorem ok_is_name (T : Txt P K mg A B Z) : FnR P w K mg base CX0 1 (A .dis_name) spIsName := by
  refine (T.d0 .dis_name).fn sc_is_name (fun _ _ _ _ _ _ us h => by obtain ⟨a, rfl⟩ := len1 h; rfl) (fun vs H Q E h => by obtain ⟨o, rfl, _⟩ := h; rfl) fun cdv Ar outer s H vs Q E hr h => ?_
  obtain ⟨x, rfl, q⟩ := h
  obtain ⟨t1, t2, t3, t4, t5, t6, t7, g1, g2, g3, g4, g5, g6, g7⟩ := T.gMost
  obtain ⟨tl, gl⟩ := T.gLet
  obtain ⟨aw, gw, hw⟩ := T.gWords
  refine ⟨_, pss_cons (ps_if (PW.pt (pw_or (pt_not (pt_val (pe_isT (n := "str") (pv 0) rfl (T.blt _ (by decide)) rfl (T.blt _ (by decide)) (by decide +kernel))))
      (pw_or (pt_not (pt_chain op_le op_le pe_int (pe_callB call_len_str rfl (T.blt _ (by decide)) PySem.boot_len (pa_cons (pv 0) pa_nil)) (pe_glob (v := .int 8) rfl g1 ⟨_, rfl⟩)))
        (pw_or1 (pt_cmpR op_in_seq (pv 0) (pe_glob (v := .ref aw) rfl gw rfl) (by rfl)))))) (pss_one (ps_ret pe_bl)) pss_nil)
    (pss_one (ps_ret (pe_callB (cr_all rfl) rfl (T.blt _ (by decide)) (by decide +kernel) (pa_cons (pe_lc (own := [("letter", 1)]) (g := gName 1) (tt := tYes) rfl sc_is_name.nd (pi_str (pv 0)) (blkOk_by (N := ["value", "letter"]) (sc := defScope (Df.st .dis_name)) (by decide +kernel))
      (fun _ _ _ _ _ => pg_name (i := 1) sc_is_name.nd rfl (Or.inl rfl)) (fun _ _ _ _ _ => pts_nil) (fun _ _ _ _ _ => pe_cmpR op_in_sign (pv 1) (pe_glob (v := .str letters) rfl gl ⟨_, rfl⟩) (by rfl))) pa_nil)))), ?_⟩
  rcases q with ⟨n, rfl, hn, q⟩ | ⟨i, rfl, q⟩
  · obtain ⟨h1, h2, h3, h4, h5⟩ := allN_ok hn
    refine ⟨_, rfl, _, true, .base (.str _), k_str_str, true, rfl, ?_⟩
    refine iteF ?_
    refine ⟨_, rfl, n, rfl, h1, ?_⟩
    refine ⟨1, _, rfl, rfl, true, congrArg V.bl (decide_eq_true h2), iteT ⟨_, 8, rfl, rfl, true, congrArg V.bl (decide_eq_true h3), ?_⟩⟩
    refine iteF ?_
    refine ⟨_, rfl, aw, _, rfl, .inr (hw _), rfl, rfl, false, congrArg V.bl h4, ?_⟩
    refine iteF ?_
    refine ⟨_, rfl, n, rfl, fun D hD => lc_it walk_str (fun i H1 => Ex H H1 ∧ H1 D = some (.lst (List.replicate i (V.bl true)))) ⟨Ex.new hD, upd_same⟩ (fun _ _ _ _ => trivial) (fun i x H1 H2 hi p y => ?_) (fun H1 p => ?_)⟩
    · obtain ⟨rfl, c, hc, rfl⟩ := y
      refine ⟨rfl, ?_⟩
      refine ⟨_, rfl, c, _, rfl, rfl, _, p.2, by rw [List.length_replicate]; have : n.cps.size = n.length := rfl; omega, Ex.mut p.1 hD, ?_⟩
      rw [upd_same, decide_eq_true (h5 i c hc), List.replicate_succ']
    · refine ⟨D, List.replicate n.cps.size true, rfl, SqL.of (by rw [List.map_replicate]; exact p.2), ?_⟩
      rw [List.all_replicate]
      have e : (if n.cps.size = 0 then true else id true) = true := by split <;> rfl
      rw [e]
      exact q _ p.1
  · refine ⟨_, rfl, _, false, .base (.int _), k_int_str, false, rfl, ?_⟩
    refine iteT ?_
    exact iteT q
end
end Hs
set_option Elab.async false
set_option linter.all false
set_option maxRecDepth 100000
set_option maxHeartbeats 4000000
/-! Comprehensions whose turns only add to the heap. -/
namespace Hs
open PySem PySem.Spec PyProof.Rows L2
theorem take_fm {xs : List V} {F : V → Option V} {i : Nat} {x : V} (h : xs[i]? = some x) : (xs.take (i + 1)).filterMap F = (xs.take i).filterMap F ++ (F x).toList := by
  have e : xs.take (i + 1) = xs.take i ++ [x] := by
    rw [List.take_succ, h]; rfl
  rw [e, List.filterMap_append]
  cases hF : F x <;> simp [hF]
/-- a list comprehension over items that stand still -/
theorem lc_at {J : It} {xs : List V} {G : Hp → Prop} {H1 : Hp} {D : Addr} {g : TG} {tt : TT} {te : TE} {vs : List Nat} {σ : L2.St} {Qd : Hp → Prop} (wk : Walk J xs.length G (YAt xs)) (hG : ∀ H', Ex H1 H' → G H') (hD : H1 D = none) (hn : xs.length ≤ 1000) (F : V → Option V)
    (ht : ∀ x H, x ∈ xs → Ex H1 H → ∀ (KK : V → Hp → Prop) (KN : Hp → Prop), (∀ y H4, Ex H H4 → F x = some y → KK y H4) → (∀ H3, Ex H H3 → F x = none → KN H3) →
      g x (wipe σ vs) H fun σ2 H2 => wipe σ2 vs = wipe σ vs ∧ tt σ2 H2 fun b H3 => if b = true then te σ2 H3 KK else KN H3)
    (hd : ∀ H', Ex H1 H' → H' D = some (.lst (xs.filterMap F)) → Qd H') :
    ∃ W : Nat → Nat → Hp → Prop, (∃ m, W 0 m (upd H1 D (.lst []))) ∧ ∀ i m H, W i m H →
      (J.stop i H ∧ Qd H) ∨ (J.go i H ∧ ∃ Nx : Hp → Prop, (∀ H', Nx H' → ∃ m', m' < m ∧ W (i + 1) m' H') ∧ ∀ x H', J.yld i H x H' → g x (wipe σ vs) H' fun σ2 H2 => wipe σ2 vs = wipe σ vs ∧ tt σ2 H2 fun b H3 =>
        if b = true then te σ2 H3 fun y H4 => ∃ acc, H4 D = some (.lst acc) ∧ acc.length < sizeLine ∧ Nx (upd H4 D (.lst (acc ++ [y]))) else Nx H3) := by
  refine lc_it wk (fun i H => Ex H1 H ∧ H D = some (.lst ((xs.take i).filterMap F))) ⟨Ex.new hD, by rw [List.take_zero]; exact upd_same⟩ (fun i H _ p => hG H p.1) (fun i x H H' hi p y => ?_) (fun H p => hd H p.1 (by rw [← List.take_length (l := xs)]; exact p.2))
  obtain ⟨rfl, hx⟩ := y
  refine ht x _ (List.mem_of_getElem? hx) p.1 _ _ (fun y H4 e hF => ⟨_, e _ _ p.2, ?_, ?_, ?_⟩) (fun H3 e hF => ⟨p.1.trans e, ?_⟩)
  · have := List.length_filterMap_le F (xs.take i)
    have := List.length_take_le i xs
    rw [sizeLine_eq]; omega
  · exact Ex.mut (p.1.trans e) hD
  · rw [upd_same, take_fm hx, hF]; rfl
  · rw [take_fm hx, hF]
    simpa using e _ _ p.2
/-! ### {k: True for k in ..} -/
def kset (L : List Key) : List (Key × V) := L.foldl (fun a k => putK a k (.bl true)) []
theorem kset_snoc (L : List Key) (k : Key) : kset (L ++ [k]) = putK (kset L) k (.bl true) := by
  unfold kset
  rw [List.foldl_append]; rfl
theorem keys_putK {κ : Type} [DecidableEq κ] (kvs : List (κ × V)) (k : κ) (v : V) : (putK kvs k v).map (·.1) = if k ∈ kvs.map (·.1) then kvs.map (·.1) else kvs.map (·.1) ++ [k] := by
  unfold putK
  have e : (kvs.any fun kv => decide (kv.1 = k)) = decide (k ∈ kvs.map (·.1)) := by
    rw [Bool.eq_iff_iff]
    simp
  rw [e]
  by_cases h : k ∈ kvs.map (·.1)
  · rw [if_pos (decide_eq_true h), if_pos h, List.map_map]
    refine List.map_congr_left fun p _ => ?_
    show (if p.1 = k then (p.1, v) else p).1 = p.1
    split <;> rfl
  · rw [if_neg (by simpa using h), if_neg h, List.map_append]; rfl
theorem rev_ind {α : Type} {p : List α → Prop} (h0 : p []) (h1 : ∀ l a, p l → p (l ++ [a])) (l : List α) : p l := by
  have : ∀ m : List α, p m.reverse := fun m => by
    induction m with
    | nil => exact h0
    | cons a m ih => rw [List.reverse_cons]; exact h1 _ _ ih
  have z := this l.reverse
  rwa [List.reverse_reverse] at z
theorem kset_ok (L : List Key) : ((kset L).map (·.1)).Nodup ∧ (∀ k, k ∈ (kset L).map (·.1) ↔ k ∈ L) ∧ (kset L).length ≤ L.length := by
  refine rev_ind (p := fun L => ((kset L).map (·.1)).Nodup ∧ (∀ k, k ∈ (kset L).map (·.1) ↔ k ∈ L) ∧ (kset L).length ≤ L.length) ⟨List.nodup_nil, fun k => Iff.rfl, Nat.le_refl _⟩ (fun L a ⟨h1, h2, h3⟩ => ?_) L
  rw [kset_snoc]
  refine ⟨?_, fun k => ?_, ?_⟩
  · rw [keys_putK]
    split
    · exact h1
    · rename_i hn
      exact L2.nd_snoc h1 hn
  · rw [keys_putK]
    split
    · rename_i hm
      rw [h2, List.mem_append, List.mem_singleton]
      constructor
      · exact Or.inl
      · rintro (h | rfl)
        · exact h
        · exact (h2 _).mp hm
    · rw [List.mem_append, List.mem_append, h2]
  · have := length_putK (kset L) a (.bl true)
    rw [List.length_append, List.length_singleton]
    omega
theorem dc_true {J : It} {xs : List V} {G : Hp → Prop} {H1 : Hp} {D : Addr} {j : Nat} {vs : List Nat} {σ : L2.St} {Qd : Hp → Prop} (wk : Walk J xs.length G (YAt xs)) (hG : ∀ H', Ex H1 H' → G H') (hD : H1 D = none) (hn : xs.length ≤ 1000) (F : V → Key) (hk : ∀ x, x ∈ xs → x = kV (F x))
    (hw : ∀ x, wipe ((wipe σ vs).set j (some x)) vs = wipe σ vs) (hj : ∀ x, ((wipe σ vs).set j (some x))[j]? = some (some x))
    (hd : ∀ H', Ex H1 H' → H' D = some (.dK (kset (xs.map F))) → Qd H') :
    ∃ W : Nat → Nat → Hp → Prop, (∃ m, W 0 m (upd H1 D (.dK []))) ∧ ∀ i m H, W i m H →
      (J.stop i H ∧ Qd H) ∨ (J.go i H ∧ ∃ Nx : Hp → Prop, (∀ H', Nx H' → ∃ m', m' < m ∧ W (i + 1) m' H') ∧ ∀ x H', J.yld i H x H' → gName j x (wipe σ vs) H' fun σ2 H2 => wipe σ2 vs = wipe σ vs ∧ tYes σ2 H2 fun b H3 =>
        if b = true then tVar j σ2 H3 fun y H4 => tC (.bl true) σ2 H4 fun z H5 => ∃ kvs k, y = kV k ∧ H5 D = some (.dK kvs) ∧ kvs.length < sizeLine ∧ Nx (upd H5 D (.dK (putK kvs k z))) else Nx H3) := by
  refine dc_it wk (fun i H => Ex H1 H ∧ H D = some (.dK (kset ((xs.take i).map F)))) ⟨Ex.new hD, by rw [List.take_zero]; exact upd_same⟩ (fun i H _ p => hG H p.1) (fun i x H H' hi p y => ?_) (fun H p => hd H p.1 (by rw [← List.take_length (l := xs)]; exact p.2))
  obtain ⟨rfl, hx⟩ := y
  refine ⟨hw x, ?_⟩
  refine ⟨x, hj x, _, F x, hk x (List.mem_of_getElem? hx), p.2, ?_, Ex.mut p.1 hD, ?_⟩
  · have h1 := (kset_ok ((xs.take i).map F)).2.2
    have h2 := List.length_take_le i xs
    rw [List.length_map] at h1
    rw [sizeLine_eq]; omega
  · have e : xs.take (i + 1) = xs.take i ++ [x] := by rw [List.take_succ, hx]; rfl
    rw [upd_same, e, List.map_append]
    show some (HO.dK (putK (kset ((xs.take i).map F)) (F x) (.bl true))) = some (HO.dK (kset ((xs.take i).map F ++ [F x])))
    rw [kset_snoc]
end Hs
set_option Elab.async false
set_option linter.all false
set_option maxRecDepth 100000
set_option maxHeartbeats 4000000
/-! is_integer, is_value, is_below, is_ahead, ascending_names. -/
namespace Hs
open PySem PySem.Spec PyProof.Rows L2
/-- for k in a dict just made: it is locked from here on -/
def iKeysL (td : TE) : TI := fun σ H R => td σ H fun x H1 => ∃ d kvs, x = .ref d ∧ H1 d = some (.dK kvs) ∧ ∀ o, R (Itk d o kvs) (upd H1 d (.frz o (.dK kvs)))
theorem pi_keysL {X : Cx} {tg e : Expr} {td : TE} (he : PE X e td) : PI X tg e (iKeysL td) := by
  refine ⟨fun pins s σ H R I h => ?_⟩
  refine thn (he.run pins s σ H _ I h) fun u s1 ⟨x, H1, I1, rx, d, kvs, ex, hd, q⟩ => ?_
  subst ex
  obtain rfl : u = Value.ref d := rx
  obtain ⟨od, I2⟩ := I1.lock hd trivial
  obtain ⟨hs, hgd, hx, es, ep, vs, hdt, hsz, kv, hm⟩ := I2.frzK upd_same
  refine iter_keys hs hgd hx hdt (pi_one (tk := s1.toks) I2 _ (turn_keys _ hdt) ⟨_, Heap.get?_push_size _ rfl, rfl, ?_⟩ (q od))
  rw [hsz] <;> rfl
section
variable {P : Program} {w : World} {K : PySem.W.Frag} {mg : Str → Option Value} {base : Heap} {A : Df → Addr} {B Z : Cl → Addr}
def spIsInt : Sp := fun vs H Q _ => ∃ x, vs = [x] ∧ ((∃ i, x = .int i ∧ Q (.bl true) H) ∨ (∃ n, x = .str n ∧ Q (.bl false) H))
theorem sc_is_integer : FnScope ["value"] ["value"] (defScope (Df.st .dis_integer)) := ⟨rfl, rfl, rfl, by decide +kernel, rfl, by decide +kernel, by decide +kernel⟩
theorem ok_is_integer (T : Txt P K mg A B Z) : FnR P w K mg base CX0 1 (A .dis_integer) spIsInt := by
  refine (T.d0 .dis_integer).fn sc_is_integer (fun _ _ _ _ _ _ us h => by obtain ⟨a, rfl⟩ := len1 h; rfl) (fun vs H Q E h => by obtain ⟨o, rfl, _⟩ := h; rfl) fun cdv Ar outer s H vs Q E hr h => ?_
  obtain ⟨x, rfl, q⟩ := h
  refine ⟨_, pss_one (ps_ret (pe_and (pe_isT (n := "int") (pv 0) rfl (T.blt _ (by decide)) rfl (T.blt _ (by decide)) (by decide +kernel))
    (pe_one (pe_not (pe_isT (n := "bool") (pv 0) rfl (T.blt _ (by decide)) rfl (T.blt _ (by decide)) (by decide +kernel)))))), ?_⟩
  rcases q with ⟨i, rfl, q⟩ | ⟨n, rfl, q⟩
  · refine ⟨_, rfl, _, true, .base (.int _), k_int_int, true, rfl, ?_⟩
    refine iteT ⟨_, rfl, _, false, .base (.int _), k_int_bool, false, rfl, q⟩
  · refine ⟨_, rfl, _, false, .base (.str _), k_str_int, false, rfl, ?_⟩
    exact iteF q
def spIsVal : Sp := fun vs H Q _ => ∃ o, vs = [oV o] ∧ Q (.bl true) H
theorem sc_is_value : FnScope ["value"] ["value"] (defScope (Df.st .dis_value)) := ⟨rfl, rfl, rfl, by decide +kernel, rfl, by decide +kernel, by decide +kernel⟩
theorem ok_is_value (T : Txt P K mg A B Z) : FnR P w K mg base CX0 2 (A .dis_value) spIsVal := by
  refine (T.d0 .dis_value).fn sc_is_value (fun _ _ _ _ _ _ us h => by obtain ⟨a, rfl⟩ := len1 h; rfl) (fun vs H Q E h => by obtain ⟨o, rfl, _⟩ := h; rfl) fun cdv Ar outer s H vs Q E hr h => ?_
  obtain ⟨o, rfl, q⟩ := h
  refine ⟨_, pss_one (ps_ret (pe_or (pe_cmp (pc_isN (pv 0)) rfl) (pe_one (pe_fn (ok_is_integer T) hr rfl (T.gD .dis_integer rfl) (T.dk .dis_integer).kp (pa_cons (pv 0) pa_nil))))), ?_⟩
  cases o with
  | none => exact ⟨_, rfl, true, rfl, iteT q⟩
  | some i => exact ⟨_, rfl, false, rfl, iteF ⟨_, rfl, .int i, rfl, .inl ⟨i, rfl, q⟩⟩⟩
def belowB : Option Int → Option Int → Bool
  | none, _ => false
  | some _, none => true
  | some i, some j => decide (i < j)
def spBelow : Sp := fun vs H Q _ => ∃ a b, vs = [oV a, oV b] ∧ Q (.bl (belowB a b)) H
theorem sc_is_below : FnScope ["one", "other"] ["one", "other"] (defScope (Df.st .dis_below)) := ⟨rfl, rfl, rfl, by decide +kernel, rfl, by decide +kernel, by decide +kernel⟩
theorem ok_is_below (T : Txt P K mg A B Z) : FnR P w K mg base CX0 1 (A .dis_below) spBelow := by
  refine (T.d0 .dis_below).fn sc_is_below (fun _ _ _ _ _ _ us h => by obtain ⟨a, b, rfl⟩ := len2 h; rfl) (fun vs H Q E h => by obtain ⟨o, o', rfl, _⟩ := h; rfl) fun cdv Ar outer s H vs Q E hr h => ?_
  obtain ⟨a, b, rfl, q⟩ := h
  refine ⟨_, pss_cons (ps_if (pt_cmp (pc_isN (pv 0))) (pss_one (ps_ret pe_bl)) pss_nil) (pss_one (ps_ret (pe_or (pe_cmp (pc_isN (pv 1)) rfl) (pe_one (pe_cmpR op_lt (pv 0) (pv 1) (nomark _)))))), ?_⟩
  cases a with
  | none => exact ⟨_, rfl, true, rfl, iteT q⟩
  | some i =>
    refine ⟨_, rfl, false, rfl, iteF ?_⟩
    cases b with
    | none => exact ⟨_, rfl, true, rfl, iteT q⟩
    | some j => exact ⟨_, rfl, false, rfl, iteF ⟨_, rfl, _, rfl, i, j, rfl, rfl, q⟩⟩
/-- some answer, the heap at most larger -/
def spAhead (K : PySem.W.Frag) : Sp := fun vs H Q _ => ∃ (a b : Addr) (r r' : List (Option Int)), vs = [.ref a, .ref b] ∧ SqT K H a (r.map oV) ∧ SqT K H b (r'.map oV) ∧ ∀ c H', Ex H H' → Q (.bl c) H'
theorem sc_is_ahead : FnScope ["row", "other", "one", "its"] ["row", "other"] (defScope (Df.st .dis_ahead)) := ⟨rfl, rfl, rfl, by decide +kernel, rfl, by decide +kernel, by decide +kernel⟩
theorem scal_oV (a b : Option Int) : scal (oV a) (oV b) = true := by cases a <;> cases b <;> rfl
theorem walk_zipT {K : PySem.W.Frag} {a b : Addr} {xs ys : List V} {n : Nat} (hn : n = min xs.length ys.length) : Walk (RZ.ItzT K a b) n (fun H => SqT K H a xs ∧ SqT K H b ys) (YPair (fun i => xs[i]?) (fun i => ys[i]?)) := by
  subst hn
  refine ⟨fun i _ hi q => ?_, fun _ q => ⟨xs, ys, q.1, q.2, by omega⟩, fun i H v H' _ q y => ?_⟩
  · have h1 : i < xs.length := by omega
    have h2 : i < ys.length := by omega
    exact ⟨xs, ys, xs[i], ys[i], q.1, q.2, by simp [h1], by simp [h2]⟩
  · obtain ⟨T, x, z, h1, h2, h3, h4, h5⟩ := y
    exact ⟨T, x, z, h1, h2, h3, h4 xs q.1, h5 ys q.2⟩
theorem ok_is_ahead (T : Txt P K mg A B Z) : FnR P w K mg base CX0 2 (A .dis_ahead) (spAhead K) := by
  refine (T.d0 .dis_ahead).fn sc_is_ahead (fun _ _ _ _ _ _ us h => by obtain ⟨a, b, rfl⟩ := len2 h; rfl) (fun vs H Q E h => by obtain ⟨a, b, r, r', rfl, _⟩ := h; rfl) fun cdv Ar outer s H vs Q E hr h => ?_
  obtain ⟨a, b, r, r', rfl, ha, hb, q⟩ := h
  have nd := sc_is_ahead.nd
  refine ⟨_, pss_cons (ps_for PassesOwn.never rfl (RZ.pi_zipA (by rfl) (T.blt _ (by decide)) (pa_cons (pv 0) (pa_cons (pv 1) pa_nil))) (pg_tup rfl (pgs_cons (pg_name (i := 2) nd rfl (.inl rfl)) (pgs_cons (pg_name (i := 3) nd rfl (.inl rfl)) pgs_nil)))
      (pss_one (ps_if (pt_cmpR op_ne (pv 2) (pv 3) (nomark _)) (pss_one (ps_ret (pe_fn (ok_is_below T) hr rfl (T.gD .dis_below rfl) (T.dk .dis_below).kp (pa_cons (pv 2) (pa_cons (pv 3) pa_nil))))) pss_nil)))
    (pss_one (ps_ret pe_bl)), ?_⟩
  refine ⟨_, rfl, _, rfl, a, b, _, _, rfl, .inr ⟨ha, hb, for_it (walk_zipT rfl) (fun i σ H' => σ.length = 4 ∧ Ex H H') ⟨rfl, Ex.refl H⟩ (fun i σ H' _ p => ⟨ex_t p.2 ha, ex_t p.2 hb⟩) (fun i x σ H1 H2 hi p y => ?_) (fun σ H' p => q _ _ p.2)⟩⟩
  obtain ⟨Tt, x1, x2, rfl, hT, rfl, e1, e2⟩ := y
  replace e1 : (r.map oV)[i]? = some x1 := e1
  replace e2 : (r'.map oV)[i]? = some x2 := e2
  rw [List.getElem?_map] at e1 e2
  obtain ⟨o1, e3, rfl⟩ := Option.map_eq_some_iff.mp e1
  obtain ⟨o2, e4, rfl⟩ := Option.map_eq_some_iff.mp e2
  obtain ⟨pl, pe⟩ := p
  have e5 : Ex H (upd H1 Tt (.tup [oV o1, oV o2])) := pe.trans (Ex.new hT)
  match σ, pl with
  | [s0, s1, s2, s3], _ =>
    refine ⟨Tt, _, rfl, SqT.of upd_same, rfl, _, _, rfl, _, _, rfl, rfl, ?_⟩
    refine ⟨_, rfl, _, rfl, scal_oV o1 o2, _, rfl, ?_⟩
    by_cases e : oV o1 = oV o2
    · rw [decide_eq_true e]
      exact iteF ⟨rfl, e5⟩
    · rw [decide_eq_false e]
      exact iteT ⟨_, rfl, _, rfl, o1, o2, rfl, q _ _ e5⟩
end
end Hs
set_option Elab.async false
set_option linter.all false
set_option maxRecDepth 100000
set_option maxHeartbeats 4000000
/-! ascending_names, ascending_rows, need_many, need_columns. -/
namespace Hs
open PySem PySem.Spec PyProof.Rows L2
section
variable {P : Program} {w : World} {K : PySem.W.Frag} {mg : Str → Option Value} {base : Heap} {A : Df → Addr} {B Z : Cl → Addr}
def spAscN (K : PySem.W.Frag) : Sp := fun vs H Q _ => ∃ (a : Addr) (ns : List Str), vs = [.ref a] ∧ SqA K H a (ns.map V.str) ∧ ns.length < 64 ∧
  ∀ p (ys : List Str) H', Ex H H' → H' p = some (.lst (ys.map V.str)) → ys.Nodup → (∀ y, y ∈ ys ↔ y ∈ ns) → sortedS ys = true → Q (.ref p) H'
theorem sc_ascending_names : FnScope ["names", "name"] ["names"] (defScope (Df.st .dascending_names)) := ⟨rfl, rfl, rfl, by decide +kernel, rfl, by decide +kernel, by decide +kernel⟩
def kS : V → Key
  | .str x => Sum.inr x
  | .int i => Sum.inl i
  | _ => Sum.inl 0
theorem kS_str (ns : List Str) : (ns.map V.str).map kS = ns.map (Sum.inr : Str → Key) := by
  rw [List.map_map]; rfl
theorem kset_strs (ns : List Str) : ∃ ys : List Str, (kset (ns.map (Sum.inr : Str → Key))).map (·.1) = ys.map Sum.inr ∧ ys.Nodup ∧ (∀ y, y ∈ ys ↔ y ∈ ns) ∧ ys.length ≤ ns.length := by
  obtain ⟨h1, h2, h3⟩ := kset_ok (ns.map (Sum.inr : Str → Key))
  have key : ∀ L : List Key, (∀ k, k ∈ L → k ∈ ns.map (Sum.inr : Str → Key)) → ∃ ys : List Str, L = ys.map Sum.inr := fun L h => by
    induction L with
    | nil => exact ⟨[], rfl⟩
    | cons k L ih =>
      obtain ⟨ys, e⟩ := ih fun k hk => h k (List.mem_cons_of_mem _ hk)
      obtain ⟨n, _, e2⟩ := List.mem_map.mp (h k (List.mem_cons_self ..))
      exact ⟨n :: ys, by rw [List.map_cons, ← e, e2]⟩
  obtain ⟨ys, e⟩ := key _ fun k hk => (h2 k).mp hk
  refine ⟨ys, e, ?_, fun y => ?_, ?_⟩
  · rw [e] at h1
    exact List.Pairwise.imp (fun h z => h (congrArg Sum.inr z)) (List.pairwise_map.mp h1)
  · have := h2 (Sum.inr y)
    rw [e] at this
    simpa using this
  · have e2 := congrArg List.length e
    rw [List.length_map, List.length_map] at e2
    rw [List.length_map] at h3
    omega
theorem ok_ascending_names (T : Txt P K mg A B Z) : FnR P w K mg base CX0 1 (A .dascending_names) (spAscN K) := by
  refine (T.d0 .dascending_names).fn sc_ascending_names (fun _ _ _ _ _ _ us h => by obtain ⟨a, rfl⟩ := len1 h; rfl) (fun vs H Q E h => by obtain ⟨a, ns, rfl, _⟩ := h; rfl) fun cdv Ar outer s H vs Q E hr h => ?_
  obtain ⟨a, ns, rfl, ha, hl, q⟩ := h
  have nd := sc_ascending_names.nd
  refine ⟨_, pss_one (ps_ret (pe_callB cr_sortedS rfl (T.blt _ (by decide)) (by decide +kernel) (pa_cons
    (pe_lc (own := [("name", 1)]) (g := gName 1) (tt := tYes) rfl nd
      (pi_keysL (pe_dc (own := [("name", 1)]) (g := gName 1) (tt := tYes) rfl nd (pi_sq (pv 0)) (blkOk_by (N := ["names", "name"]) (sc := defScope (Df.st .dascending_names)) (by decide +kernel)) (fun _ _ _ _ _ => pg_name (i := 1) nd rfl (Or.inl rfl)) (fun _ _ _ _ _ => pts_nil) (fun _ _ _ _ _ => pv 1) (fun _ _ _ _ _ => pe_bl)))
      (blkOk_by (N := ["names", "name"]) (sc := defScope (Df.st .dascending_names)) (by decide +kernel)) (fun _ _ _ _ _ => pg_name (i := 1) nd rfl (Or.inl rfl)) (fun _ _ _ _ _ => pts_nil)
      (fun _ _ _ _ _ => pe_callTy SkE.call_str_str rfl (T.blt _ (by decide)) (by decide +kernel) (pa_cons (pv 1) pa_nil))) pa_nil))), ?_⟩
  refine ⟨_, rfl, a, ns.map V.str, rfl, ha, fun J G wk hG D hD => dc_true wk hG hD (by rw [List.length_map]; omega) kS (fun x hx => ?_) (fun _ => rfl) (fun _ => rfl) fun H1 e1 hD1 => ?_⟩
  · obtain ⟨n, _, rfl⟩ := List.mem_map.mp hx
    rfl
  rw [kS_str] at hD1
  obtain ⟨ys, ek, nd2, mem2, len2⟩ := kset_strs ns
  refine ⟨D, _, rfl, hD1, fun o D2 hD2 => ?_⟩
  have l0 : (kset (ns.map (Sum.inr : Str → Key))).length = ys.length := by
    have := congrArg List.length ek
    rwa [List.length_map, List.length_map] at this
  have hne : D2 ≠ D := fun z => by rw [z, upd_same] at hD2; cases hD2
  refine lc_it walk_keys (fun i H2 => Ex H H2 ∧ H2 D = some (.frz o (.dK (kset (ns.map (Sum.inr : Str → Key))))) ∧ H2 D2 = some (.lst ((ys.take i).map V.str))) ⟨(Ex.mut e1 hD).mut (e1.free (by rw [upd_ne hne] at hD2; exact hD2)), by rw [upd_ne hne.symm, upd_same], by rw [upd_same]; rfl⟩ (fun i H2 _ p => p.2.1) (fun i x H2 H3 hi p y => ?_) (fun H2 p => ?_)
  · obtain ⟨rfl, k, v, hk, rfl⟩ := y
    have hi2 : i < ys.length := by omega
    have ek2 : k = Sum.inr ys[i] := by
      have e3 : ((kset (ns.map (Sum.inr : Str → Key))).map (·.1))[i]? = some k := by rw [List.getElem?_map, hk]; rfl
      rw [ek, List.getElem?_map, List.getElem?_eq_getElem hi2] at e3
      exact (Option.some.inj e3).symm
    subst ek2
    refine ⟨rfl, ?_⟩
    refine ⟨_, rfl, ys[i], rfl, _, p.2.2, by rw [List.length_map, List.length_take, sizeLine_eq]; omega, p.1.mut (e1.free (by rw [upd_ne hne] at hD2; exact hD2)), by rw [upd_ne hne.symm]; exact p.2.1, ?_⟩
    rw [upd_same, List.take_succ, List.getElem?_eq_getElem hi2, List.map_append]
    rfl
  · refine ⟨D2, ys, rfl, SqL.of (by rw [← List.take_length (l := ys), ← l0]; exact p.2.2), by omega, fun zs p2 pm srt hp2 => ?_⟩
    refine q p2 zs _ (p.1.trans (Ex.new hp2)) upd_same (pm.symm.nodup nd2) (fun y => ?_) srt
    rw [pm.mem_iff]
    exact mem2 y
def spNeedMany : Sp := fun vs H Q _ => ∃ (m : Int) (o : Option Int), vs = [.int m, oV o] ∧ 1 ≤ m ∧ (∀ k, o = some k → m ≤ k) ∧ Q .non H
theorem sc_need_many : FnScope ["many", "most"] ["many", "most"] (defScope (Df.st .dneed_many)) := ⟨rfl, rfl, rfl, by decide +kernel, rfl, by decide +kernel, by decide +kernel⟩
theorem ok_need_many (T : Txt P K mg A B Z) : FnR P w K mg base CX0 2 (A .dneed_many) spNeedMany := by
  refine (T.d0 .dneed_many).fn sc_need_many (fun _ _ _ _ _ _ us h => by obtain ⟨a, b, rfl⟩ := len2 h; rfl) (fun vs H Q E h => by obtain ⟨a, b, rfl, _⟩ := h; rfl) fun cdv Ar outer s H vs Q E hr h => ?_
  obtain ⟨m, o, rfl, h1, h2, q⟩ := h
  refine ⟨_, pss_one (ps_if (PW.pt (pw_or (pt_not (pt_val (pe_fn (ok_is_integer T) hr rfl (T.gD .dis_integer rfl) (T.dk .dis_integer).kp (pa_cons (pv 0) pa_nil)))) (pw_or (pt_cmpR op_lt (pv 0) pe_int (nomark _))
    (pw_or1 (PW.pt (pw_and (pt_cmp (pc_notN (pv 1))) (pw_and1 (pt_cmpR op_gt (pv 0) (pv 1) (nomark _))))))))) pss_never pss_nil), ?_⟩
  refine ⟨_, rfl, .int m, rfl, .inl ⟨m, rfl, true, rfl, ?_⟩⟩
  refine iteF ⟨_, rfl, m, 1, rfl, rfl, false, congrArg V.bl (decide_eq_false (by omega)), iteF ?_⟩
  cases o with
  | none => exact ⟨_, rfl, false, rfl, iteF (iteF q)⟩
  | some k => exact ⟨_, rfl, true, rfl, iteT ⟨_, rfl, _, rfl, m, k, rfl, rfl, false, congrArg V.bl (decide_eq_false (by have := h2 k rfl; omega)), iteF q⟩⟩
def spNeedCols (K : PySem.W.Frag) : Sp := fun vs H Q _ => ∃ (a b : Addr) (N cs : List Str), vs = [.ref a, .ref b] ∧ SqT K H a (N.map V.str) ∧ SqT K H b (cs.map V.str) ∧ (∀ c, c ∈ cs → c ∈ N) ∧ ∀ H', Ex H H' → Q .non H'
theorem sc_need_columns : FnScope ["names", "columns", "column"] ["names", "columns"] (defScope (Df.st .dneed_columns)) := ⟨rfl, rfl, rfl, by decide +kernel, rfl, by decide +kernel, by decide +kernel⟩
theorem inV_str {c : Str} {N : List Str} : inV (.str c) (N.map V.str) = decide (c ∈ N) := by
  unfold inV
  rw [Bool.eq_iff_iff, List.any_eq_true, decide_eq_true_iff]
  constructor
  · rintro ⟨y, hy, e⟩
    obtain ⟨n, hn, rfl⟩ := List.mem_map.mp hy
    have : n = c := by simpa [eqV] using e
    exact this ▸ hn
  · intro h
    exact ⟨.str c, List.mem_map_of_mem h, by simp [eqV]⟩
theorem flat_strs (N : List Str) : (N.map V.str).all flatV = true := by
  rw [List.all_eq_true]
  intro x hx
  obtain ⟨n, _, rfl⟩ := List.mem_map.mp hx
  rfl
theorem ok_need_columns (T : Txt P K mg A B Z) : FnR P w K mg base CX0 1 (A .dneed_columns) (spNeedCols K) := by
  refine (T.d0 .dneed_columns).fn sc_need_columns (fun _ _ _ _ _ _ us h => by obtain ⟨a, b, rfl⟩ := len2 h; rfl) (fun vs H Q E h => by obtain ⟨a, b, N, cs, rfl, _⟩ := h; rfl) fun cdv Ar outer s H vs Q E hr h => ?_
  obtain ⟨a, b, N, cs, rfl, ha, hb, hc, q⟩ := h
  have nd := sc_need_columns.nd
  refine ⟨_, pss_one (ps_for PassesOwn.never rfl (pi_tup (pv 1)) (pg_name (i := 2) nd rfl (.inl rfl)) (pss_one (ps_if (pt_cmpR op_notIn_seq (pv 2) (pv 0) (by rfl)) pss_never pss_nil))), ?_⟩
  refine ⟨_, rfl, b, rfl, ⟨_, hb⟩, for_it walk_tup (fun i σ H' => (∃ z, σ = [some (.ref a), some (.ref b), z]) ∧ H' = H) ⟨⟨none, rfl⟩, rfl⟩ (fun i σ H' _ p => by rw [p.2]; exact hb) (fun i x σ H1 H2 hi p y => ?_) (fun σ H' p => by rw [p.2]; exact q H (Ex.refl H))⟩
  obtain ⟨rfl, hx⟩ := y
  obtain ⟨⟨z, rfl⟩, rfl⟩ := p
  rw [List.getElem?_map] at hx
  obtain ⟨c, e, rfl⟩ := Option.map_eq_some_iff.mp hx
  refine ⟨_, rfl, _, rfl, a, _, rfl, .inr ha, rfl, ?_, false, ?_, iteF ⟨⟨_, rfl⟩, rfl⟩⟩
  · exact flat_strs N
  · have hm : c ∈ N := hc c (List.mem_of_getElem? e)
    show V.bl (if true = true then !inV (.str c) (N.map V.str) else inV (.str c) (N.map V.str)) = .bl false
    rw [if_pos rfl, inV_str, decide_eq_true hm]
    rfl
end
end Hs
set_option Elab.async false
set_option linter.all false
set_option maxRecDepth 100000
set_option maxHeartbeats 4000000
/-! The objects as they stand: filters. -/
namespace Hs
open PySem PySem.Spec PyProof.Rows L2
def Ns : List (List Str) := [["x"], ["x", "y"], ["a", "zz"]]
theorem Ns_allN {N : List Str} (h : N ∈ Ns) {c : Str} (hc : c ∈ N) : c ∈ allN := by
  have key : ∀ N ∈ Ns, ∀ c ∈ N, c ∈ allN := by decide +kernel
  exact key N h c hc
theorem Ns_len {N : List Str} (h : N ∈ Ns) : N.length = 1 ∨ N.length = 2 := by
  have key : ∀ N ∈ Ns, N.length = 1 ∨ N.length = 2 := by decide +kernel
  exact key N h
theorem Ns_nd {N : List Str} (h : N ∈ Ns) : N.Nodup := by
  have key : ∀ N ∈ Ns, N.Nodup := by decide +kernel
  exact key N h
theorem sub_len {α : Type} [DecidableEq α] : ∀ {xs ys : List α}, xs.Nodup → (∀ x, x ∈ xs → x ∈ ys) → xs.length ≤ ys.length
  | [], _, _, _ => Nat.zero_le _
  | x :: xs, ys, hn, h => by
    have h1 := List.nodup_cons.mp hn
    have hx := h x (List.mem_cons_self ..)
    have := sub_len (xs := xs) (ys := ys.erase x) h1.2 fun y hy => (List.mem_erase_of_ne (fun e => h1.1 (by rw [← e]; exact hy))).mpr (h y (List.mem_cons_of_mem _ hy))
    rw [List.length_erase_of_mem hx] at this
    have := List.length_pos_of_mem hx
    rw [List.length_cons]
    omega
/-- an ascending list of all names is the names -/
theorem asc_full {N ys : List Str} (h : N ∈ Ns) (nd : ys.Nodup) (hs : ∀ y, y ∈ ys → y ∈ N) (srt : sortedS ys = true) (hl : ys.length = N.length) : ys = N := by
  have key : ∀ N ∈ Ns, (∀ a ∈ N, N.length = 1 → N = [a]) ∧ (∀ a ∈ N, ∀ b ∈ N, N.length = 2 → a ≠ b → sortedS [a, b] = true → [a, b] = N) := by decide +kernel
  obtain ⟨k1, k2⟩ := key N h
  rcases Ns_len h with e | e
  · rw [e] at hl
    obtain ⟨a, rfl⟩ := len1 hl
    exact (k1 a (hs a (List.mem_cons_self ..)) e).symm
  · rw [e] at hl
    obtain ⟨a, b, rfl⟩ := len2 hl
    have ne : a ≠ b := by
      have := List.nodup_cons.mp nd
      exact fun z => this.1 (z ▸ List.mem_cons_self ..)
    exact k2 a (hs a (List.mem_cons_self ..)) b (hs b (by simp)) e ne srt
/-- at most the object at p has changed -/
def ExB (p : Addr) (H H' : Hp) : Prop := ∀ a o, a ≠ p → H a = some o → H' a = some o
theorem ExB.refl (p : Addr) (H : Hp) : ExB p H H := fun _ _ _ h => h
theorem ExB.trans {p : Addr} {H H1 H2 : Hp} (a : ExB p H H1) (b : ExB p H1 H2) : ExB p H H2 := fun x o n h => b x o n (a x o n h)
theorem ExB.ex {p : Addr} {H H1 H2 : Hp} (a : ExB p H H1) (b : Ex H1 H2) : ExB p H H2 := fun x o n h => b x o (a x o n h)
theorem ExB.put {p : Addr} {H H1 : Hp} {o : HO} (a : ExB p H H1) : ExB p H (upd H1 p o) := fun x u n h => by
  rw [upd_ne n]; exact a x u n h
theorem ExB.new {p q : Addr} {H H1 : Hp} {o : HO} (a : ExB p H H1) (h : H1 q = none) : ExB p H (upd H1 q o) := a.ex (Ex.new h)
theorem ExB.toEx {p : Addr} {H H1 : Hp} (a : ExB p H H1) (h : H p = none) : Ex H H1 := fun x o e => a x o (ne_of_none e h) e
theorem ex_b {p : Addr} {H H1 : Hp} (e : Ex H H1) : ExB p H H1 := fun a o _ h => e a o h
theorem exb_l {K : PySem.W.Frag} {p : Addr} {H H' : Hp} {a : Addr} {xs : List V} (e : ExB p H H') (hp : ∃ C dx fs, H p = some (.ins C dx fs)) (h : SqL K H a xs) : SqL K H' a xs := by
  obtain ⟨C, dx, fs, hp⟩ := hp
  rcases h with (h | ⟨o, h⟩) | h
  · exact .inl (.inl (e _ _ (fun z => by rw [z, hp] at h; cases h) h))
  · exact .inl (.inr ⟨o, e _ _ (fun z => by rw [z, hp] at h; cases h) h⟩)
  · exact .inr h
theorem exb_t {K : PySem.W.Frag} {p : Addr} {H H' : Hp} {a : Addr} {xs : List V} (e : ExB p H H') (hp : ∃ C dx fs, H p = some (.ins C dx fs)) (h : SqT K H a xs) : SqT K H' a xs := by
  obtain ⟨C, dx, fs, hp⟩ := hp
  rcases h with (h | ⟨o, h⟩) | h
  · exact .inl (.inl (e _ _ (fun z => by rw [z, hp] at h; cases h) h))
  · exact .inl (.inr ⟨o, e _ _ (fun z => by rw [z, hp] at h; cases h) h⟩)
  · exact .inr h
theorem SqA.exb {K : PySem.W.Frag} {p : Addr} {H H' : Hp} {a : Addr} {xs : List V} (h : SqA K H a xs) (e : ExB p H H') (hp : ∃ C dx fs, H p = some (.ins C dx fs)) : SqA K H' a xs := h.imp (exb_l e hp) (exb_t e hp)
def LinksOk (N : List Str) (H : Hp) (ls : List V) : Prop := ls = [] ∨ ∃ p, ls = [.ref p] ∧ H p = some (.tup (N.map V.str)) ∧ N.length = 2
theorem LinksOk.mono {N : List Str} {H H' : Hp} {ls : List V} (h : LinksOk N H ls) (e : Ex H H') : LinksOk N H' ls := h.imp id fun ⟨p, h1, h2, h3⟩ => ⟨p, h1, e _ _ h2, h3⟩
theorem LinksOk.exb {N : List Str} {p : Addr} {H H' : Hp} {ls : List V} (h : LinksOk N H ls) (e : ExB p H H') (hp : ∃ C dx fs, H p = some (.ins C dx fs)) : LinksOk N H' ls := h.imp id fun ⟨q, h1, h2, h3⟩ => by
  obtain ⟨C, dx, fs, hp⟩ := hp
  exact ⟨q, h1, e _ _ (fun z => by rw [z, hp] at h2; cases h2) h2, h3⟩
def hdr (t1 t2 t3 : Addr) : List (Str × V) := [("own_columns", .ref t1), ("own_constants", .ref t2), ("own_links", .ref t3)]
structure Hd (N : List Str) (S : List Int) (H : Hp) (t1 t2 t3 : Addr) (ks : List Int) : Prop where
  cs : ∃ cs : List Str, H t1 = some (.tup (cs.map V.str)) ∧ cs.Nodup ∧ ∀ c, c ∈ cs → c ∈ N
  kt : H t2 = some (.tup (ks.map V.int))
  kn : ks.Nodup
  ks : ∀ k, k ∈ ks → k ∈ S
  ls : ∃ ls, H t3 = some (.tup ls) ∧ LinksOk N H ls
theorem Hd.mono {N : List Str} {S : List Int} {H H' : Hp} {t1 t2 t3 : Addr} {ks : List Int} (h : Hd N S H t1 t2 t3 ks) (e : Ex H H') : Hd N S H' t1 t2 t3 ks :=
  ⟨let ⟨cs, h1, h2⟩ := h.cs; ⟨cs, e _ _ h1, h2⟩, e _ _ h.kt, h.kn, h.ks, let ⟨ls, h1, h2⟩ := h.ls; ⟨ls, e _ _ h1, h2.mono e⟩⟩
def sv : Side → V
  | .col c => .str c
  | .num i => .int i
def SideOk (N : List Str) (S : List Int) : Side → Prop
  | .col c => c ∈ N
  | .num i => i ∈ S
def opC : Cop → Cl
  | .lt => .cLess
  | .le => .cAtMost
  | .eq => .cSame
def Flt.cl : Flt → Cl
  | .cmp o _ _ => opC o
  | .among _ _ => .cAmong
  | .missing _ => .cMissing
  | .fixed b => if b then .cAlways else .cNever
  | .turned _ => .cTurned
  | .both _ _ => .cBoth
  | .either _ _ => .cEither
def Flt.leaves : Flt → Nat
  | .turned f => f.leaves
  | .both f g => f.leaves + g.leaves
  | .either f g => f.leaves + g.leaves
  | _ => 1
def Flt.ht : Flt → Nat
  | .turned f => f.ht + 1
  | .both f g => max f.ht g.ht + 1
  | .either f g => max f.ht g.ht + 1
  | _ => 0
def r2 (x y : V) : List (Str × V) := [("one", x), ("other", y)]
def rC (c : Str) : List (Str × V) := [("column", .str c)]
def rI (p : Addr) : List (Str × V) := [("inner", .ref p)]
/-- what stands behind the header -/
def Rest (B : Cl → Addr) (N : List Str) (S : List Int) (H : Hp) (ks : List Int) : Flt → List (Str × V) → Prop
  | .cmp _ a b, r => r = r2 (sv a) (sv b) ∧ SideOk N S a ∧ SideOk N S b ∧ ((∃ c, a = .col c) ∨ ∃ c, b = .col c)
  | .among c vs, r => r = rC c ∧ c ∈ N ∧ (∀ k, k ∈ ks ↔ k ∈ vs) ∧ vs ≠ []
  | .missing c, r => r = rC c ∧ c ∈ N
  | .fixed _, r => r = [] ∧ ks = []
  | .turned f, r => ∃ p dx t1 t2 t3 ks' r', r = rI p ∧ H p = some (.ins (B f.cl) dx (hdr t1 t2 t3 ++ r')) ∧ Hd N S H t1 t2 t3 ks' ∧ Rest B N S H ks' f r'
  | .both f g, r => ∃ p dx t1 t2 t3 ks' r' q ex u1 u2 u3 ls' r'', r = r2 (.ref p) (.ref q) ∧ H p = some (.ins (B f.cl) dx (hdr t1 t2 t3 ++ r')) ∧ Hd N S H t1 t2 t3 ks' ∧ Rest B N S H ks' f r' ∧
      H q = some (.ins (B g.cl) ex (hdr u1 u2 u3 ++ r'')) ∧ Hd N S H u1 u2 u3 ls' ∧ Rest B N S H ls' g r''
  | .either f g, r => ∃ p dx t1 t2 t3 ks' r' q ex u1 u2 u3 ls' r'', r = r2 (.ref p) (.ref q) ∧ H p = some (.ins (B f.cl) dx (hdr t1 t2 t3 ++ r')) ∧ Hd N S H t1 t2 t3 ks' ∧ Rest B N S H ks' f r' ∧
      H q = some (.ins (B g.cl) ex (hdr u1 u2 u3 ++ r'')) ∧ Hd N S H u1 u2 u3 ls' ∧ Rest B N S H ls' g r''
/-- the filter F stands at p -/
def FltAt (B : Cl → Addr) (N : List Str) (S : List Int) (H : Hp) (F : Flt) (p : Addr) : Prop :=
  ∃ dx t1 t2 t3 ks r, H p = some (.ins (B F.cl) dx (hdr t1 t2 t3 ++ r)) ∧ Hd N S H t1 t2 t3 ks ∧ Rest B N S H ks F r
section
variable {B : Cl → Addr} {N : List Str} {S : List Int} {H H' : Hp} {F G : Flt} {p q : Addr} {ks : List Int} {r : List (Str × V)}
theorem Rest.mono (e : Ex H H') : ∀ {F : Flt} {ks : List Int} {r : List (Str × V)}, Rest B N S H ks F r → Rest B N S H' ks F r := by
  intro F
  induction F with
  | cmp o a b => exact fun h => h
  | among c vs => exact fun h => h
  | missing c => exact fun h => h
  | fixed b => exact fun h => h
  | turned f ih =>
    rintro ks r ⟨p, dx, t1, t2, t3, ks', r', h1, h2, h3, h4⟩
    exact ⟨p, dx, t1, t2, t3, ks', r', h1, e _ _ h2, h3.mono e, ih h4⟩
  | both f g ih1 ih2 =>
    rintro ks r ⟨p, dx, t1, t2, t3, ks', r', q, ex, u1, u2, u3, ls', r'', h1, h2, h3, h4, h5, h6, h7⟩
    exact ⟨p, dx, t1, t2, t3, ks', r', q, ex, u1, u2, u3, ls', r'', h1, e _ _ h2, h3.mono e, ih1 h4, e _ _ h5, h6.mono e, ih2 h7⟩
  | either f g ih1 ih2 =>
    rintro ks r ⟨p, dx, t1, t2, t3, ks', r', q, ex, u1, u2, u3, ls', r'', h1, h2, h3, h4, h5, h6, h7⟩
    exact ⟨p, dx, t1, t2, t3, ks', r', q, ex, u1, u2, u3, ls', r'', h1, e _ _ h2, h3.mono e, ih1 h4, e _ _ h5, h6.mono e, ih2 h7⟩
theorem FltAt.mono (h : FltAt B N S H F p) (e : Ex H H') : FltAt B N S H' F p := by
  obtain ⟨dx, t1, t2, t3, ks, r, h1, h2, h3⟩ := h
  exact ⟨dx, t1, t2, t3, ks, r, e _ _ h1, h2.mono e, h3.mono e⟩
theorem FltAt.turned (h : FltAt B N S H (.turned F) p) : ∃ dx t1 t2 t3 ks q, H p = some (.ins (B .cTurned) dx (hdr t1 t2 t3 ++ rI q)) ∧ Hd N S H t1 t2 t3 ks ∧ FltAt B N S H F q := by
  obtain ⟨dx, t1, t2, t3, ks, r, h1, h2, p', dx', s1, s2, s3, ks', r', rfl, h4, h5, h6⟩ := h
  exact ⟨dx, t1, t2, t3, ks, p', h1, h2, dx', s1, s2, s3, ks', r', h4, h5, h6⟩
theorem FltAt.both (h : FltAt B N S H (.both F G) p) : ∃ dx t1 t2 t3 ks q q', H p = some (.ins (B .cBoth) dx (hdr t1 t2 t3 ++ r2 (.ref q) (.ref q'))) ∧ Hd N S H t1 t2 t3 ks ∧ FltAt B N S H F q ∧ FltAt B N S H G q' := by
  obtain ⟨dx, t1, t2, t3, ks, r, h1, h2, p', dx', s1, s2, s3, ks', r', q', ex, u1, u2, u3, ls', r'', rfl, h4, h5, h6, h7, h8, h9⟩ := h
  exact ⟨dx, t1, t2, t3, ks, p', q', h1, h2, ⟨dx', s1, s2, s3, ks', r', h4, h5, h6⟩, ex, u1, u2, u3, ls', r'', h7, h8, h9⟩
theorem FltAt.either (h : FltAt B N S H (.either F G) p) : ∃ dx t1 t2 t3 ks q q', H p = some (.ins (B .cEither) dx (hdr t1 t2 t3 ++ r2 (.ref q) (.ref q'))) ∧ Hd N S H t1 t2 t3 ks ∧ FltAt B N S H F q ∧ FltAt B N S H G q' := by
  obtain ⟨dx, t1, t2, t3, ks, r, h1, h2, p', dx', s1, s2, s3, ks', r', q', ex, u1, u2, u3, ls', r'', rfl, h4, h5, h6, h7, h8, h9⟩ := h
  exact ⟨dx, t1, t2, t3, ks, p', q', h1, h2, ⟨dx', s1, s2, s3, ks', r', h4, h5, h6⟩, ex, u1, u2, u3, ls', r'', h7, h8, h9⟩
theorem FltAt.mkTurned {dx t1 t2 t3 : Addr} (h1 : H p = some (.ins (B .cTurned) dx (hdr t1 t2 t3 ++ rI q))) (h2 : Hd N S H t1 t2 t3 ks) (h3 : FltAt B N S H F q) : FltAt B N S H (.turned F) p := by
  obtain ⟨dx', s1, s2, s3, ks', r', h4, h5, h6⟩ := h3
  exact ⟨dx, t1, t2, t3, ks, _, h1, h2, q, dx', s1, s2, s3, ks', r', rfl, h4, h5, h6⟩
theorem FltAt.mkBoth {dx t1 t2 t3 q' : Addr} (h1 : H p = some (.ins (B .cBoth) dx (hdr t1 t2 t3 ++ r2 (.ref q) (.ref q')))) (h2 : Hd N S H t1 t2 t3 ks) (h3 : FltAt B N S H F q) (h4 : FltAt B N S H G q') : FltAt B N S H (.both F G) p := by
  obtain ⟨dx', s1, s2, s3, ks', r', a4, a5, a6⟩ := h3
  obtain ⟨ex, u1, u2, u3, ls', r'', b4, b5, b6⟩ := h4
  exact ⟨dx, t1, t2, t3, ks, _, h1, h2, q, dx', s1, s2, s3, ks', r', q', ex, u1, u2, u3, ls', r'', rfl, a4, a5, a6, b4, b5, b6⟩
theorem FltAt.mkEither {dx t1 t2 t3 q' : Addr} (h1 : H p = some (.ins (B .cEither) dx (hdr t1 t2 t3 ++ r2 (.ref q) (.ref q')))) (h2 : Hd N S H t1 t2 t3 ks) (h3 : FltAt B N S H F q) (h4 : FltAt B N S H G q') : FltAt B N S H (.either F G) p := by
  obtain ⟨dx', s1, s2, s3, ks', r', a4, a5, a6⟩ := h3
  obtain ⟨ex, u1, u2, u3, ls', r'', b4, b5, b6⟩ := h4
  exact ⟨dx, t1, t2, t3, ks, _, h1, h2, q, dx', s1, s2, s3, ks', r', q', ex, u1, u2, u3, ls', r'', rfl, a4, a5, a6, b4, b5, b6⟩
end
theorem tst1 (t1 t2 t3 : Addr) : putF "own_links" (.ref t3) (putF "own_constants" (.ref t2) (putF "own_columns" (.ref t1) [])) = hdr t1 t2 t3 := by rfl
theorem tst2 (t1 t2 t3 : Addr) : (hdr t1 t2 t3 ++ r2 (.ref t1) (.ref t2)).lookup ("one" : Str) = some (.ref t1) := by rfl
theorem tst3 (t1 t2 t3 : Addr) : (hdr t1 t2 t3 ++ r2 (.ref t1) (.ref t2)).lookup ("judged" : Str) = none := by rfl
end Hs
set_option Elab.async false
set_option linter.all false
set_option maxRecDepth 100000
set_option maxHeartbeats 4000000
/-! Filter.__init__, its properties. -/
namespace Hs
open PySem PySem.Spec PyProof.Rows L2
section
variable {P : Program} {w : World} {K : PySem.W.Frag} {mg : Str → Option Value} {base : Heap} {A : Df → Addr} {B Z : Cl → Addr}
theorem kset_ints (ns : List Int) : ∃ ys : List Int, (kset (ns.map (Sum.inl : Int → Key))).map (·.1) = ys.map Sum.inl ∧ ys.Nodup ∧ (∀ y, y ∈ ys ↔ y ∈ ns) ∧ ys.length ≤ ns.length := by
  obtain ⟨h1, h2, h3⟩ := kset_ok (ns.map (Sum.inl : Int → Key))
  have key : ∀ L : List Key, (∀ k, k ∈ L → k ∈ ns.map (Sum.inl : Int → Key)) → ∃ ys : List Int, L = ys.map Sum.inl := fun L h => by
    induction L with
    | nil => exact ⟨[], rfl⟩
    | cons k L ih =>
      obtain ⟨ys, e⟩ := ih fun k hk => h k (List.mem_cons_of_mem _ hk)
      obtain ⟨n, _, e2⟩ := List.mem_map.mp (h k (List.mem_cons_self ..))
      exact ⟨n :: ys, by rw [List.map_cons, ← e, e2]⟩
  obtain ⟨ys, e⟩ := key _ fun k hk => (h2 k).mp hk
  refine ⟨ys, e, ?_, fun y => ?_, ?_⟩
  · rw [e] at h1
    exact List.Pairwise.imp (fun h z => h (congrArg Sum.inl z)) (List.pairwise_map.mp h1)
  · have := h2 (Sum.inl y)
    rw [e] at this
    simpa using this
  · have e2 := congrArg List.length e
    rw [List.length_map, List.length_map] at e2
    rw [List.length_map] at h3
    omega
theorem kS_int (ns : List Int) : (ns.map V.int).map kS = ns.map (Sum.inl : Int → Key) := by
  rw [List.map_map]; rfl
def spFInit (K : PySem.W.Frag) (B : Cl → Addr) : Sp := fun vs H Q _ => ∃ (p c k l dx : Addr) (cl : Cl) (N cs : List Str) (S ks : List Int) (ls : List V), vs = [.ref p, .ref c, .ref k, .ref l] ∧ H p = some (.ins (B cl) dx []) ∧
  SqA K H c (cs.map V.str) ∧ cs.length < 64 ∧ (∀ x, x ∈ cs → x ∈ N) ∧ SqA K H k (ks.map V.int) ∧ ks.length < 64 ∧ (∀ x, x ∈ ks → x ∈ S) ∧ (SqL K H l ls ∨ H l = some (.tup ls)) ∧ LinksOk N H ls ∧
  ∀ H' t1 t2 t3 ks', ExB p H H' → H' p = some (.ins (B cl) dx (hdr t1 t2 t3)) → Hd N S H' t1 t2 t3 ks' → (∀ x, x ∈ ks' ↔ x ∈ ks) → Q .non H'
theorem sc_Filter_init : FnScope ["self", "columns", "constants", "links", "number"] ["self", "columns", "constants", "links"] (defScope (Df.st .dFilter_init)) := ⟨rfl, rfl, rfl, by decide +kernel, rfl, by decide +kernel, by decide +kernel⟩
theorem ok_Filter_init (T : Txt P K mg A B Z) : FnR P w K mg base CX0 2 (A .dFilter_init) (spFInit K B) := by
  refine (T.d0 .dFilter_init).fn sc_Filter_init (fun _ _ _ _ _ _ us h => by obtain ⟨a, b, c, d, rfl⟩ := len4 h; rfl) (fun vs H Q E h => by obtain ⟨_, _, _, _, _, _, _, _, _, _, _, rfl, _⟩ := h; rfl) fun cdv Ar outer s H vs Q E hr h => ?_
  obtain ⟨p, c, k, l, dx, cl, N, cs, S, ks, ls, rfl, hp, hc, cl1, hcN, hk, kl, hkS, hl, hL, q⟩ := h
  have nd := sc_Filter_init.nd
  refine ⟨_, pss_cons (ps_fld (pv 0) (pe_callTy call_tuple_of rfl (T.blt _ (by decide)) (by decide +kernel) (pa_cons (pe_fn (ok_ascending_names T) hr rfl (T.gD .dascending_names rfl) (T.dk .dascending_names).kp (pa_cons (pv 1) pa_nil)) pa_nil)) rfl)
    (pss_cons (ps_fld (pv 0) (pe_callTy call_tuple_of rfl (T.blt _ (by decide)) (by decide +kernel) (pa_cons (pe_callB cr_sorted rfl (T.blt _ (by decide)) (by decide +kernel) (pa_cons
        (pe_lc (own := [("number", 4)]) (g := gName 4) (tt := tYes) rfl nd
          (pi_keysL (pe_dc (own := [("number", 4)]) (g := gName 4) (tt := tYes) rfl nd (pi_sq (pv 2)) (blkOk_by (N := ["self", "columns", "constants", "links", "number"]) (sc := defScope (Df.st .dFilter_init)) (by decide +kernel)) (fun _ _ _ _ _ => pg_name (i := 4) nd rfl (Or.inl rfl)) (fun _ _ _ _ _ => pts_nil) (fun _ _ _ _ _ => pv 4) (fun _ _ _ _ _ => pe_bl)))
          (blkOk_by (N := ["self", "columns", "constants", "links", "number"]) (sc := defScope (Df.st .dFilter_init)) (by decide +kernel)) (fun _ _ _ _ _ => pg_name (i := 4) nd rfl (Or.inl rfl)) (fun _ _ _ _ _ => pts_nil)
          (fun _ _ _ _ _ => pe_callTy call_int1 rfl (T.blt _ (by decide)) (by decide +kernel) (pa_cons (pv 4) pa_nil))) pa_nil)) pa_nil)) rfl)
    (pss_one (ps_fld (pv 0) (pe_callTy call_tuple_of rfl (T.blt _ (by decide)) (by decide +kernel) (pa_cons (pv 3) pa_nil)) rfl))), ?_⟩
  have hcl : Cls K (B cl) := T.cls cl
  have n1 : NoAttr K (B cl) "own_columns" := T.no cl _ (by decide)
  have n2 : NoAttr K (B cl) "own_constants" := T.no cl _ (by decide)
  have n3 : NoAttr K (B cl) "own_links" := T.no cl _ (by decide)
  -- the columns
  refine ⟨_, rfl, c, cs, rfl, hc, cl1, fun a1 ys H1 e1 h1 nd1 mem1 srt => ?_⟩
  refine ⟨a1, _, rfl, .inl ⟨SqL.of h1, fun t1 ht1 => ?_⟩⟩
  refine ⟨_, rfl, p, B cl, dx, [], rfl, (Ex.new ht1) _ _ (e1 _ _ hp), hcl, n1, by decide, ?_⟩
  generalize hH2 : upd (upd H1 t1 (.tup (ys.map V.str))) p (.ins (B cl) dx (putF "own_columns" (.ref t1) [])) = H2
  have hpt1 : t1 ≠ p := fun z => by rw [z] at ht1; rw [e1 _ _ hp] at ht1; cases ht1
  have b2 : ExB p H H2 := by rw [← hH2]; exact (ex_b (e1.trans (Ex.new ht1))).put
  have g2 : H2 p = some (.ins (B cl) dx [("own_columns", .ref t1)]) := by rw [← hH2, upd_same]; rfl
  have g2t : H2 t1 = some (.tup (ys.map V.str)) := by rw [← hH2, upd_ne hpt1, upd_same]
  have pI : ∃ C dx fs, H p = some (.ins C dx fs) := ⟨_, _, _, hp⟩
  -- the constants
  refine ⟨_, rfl, k, ks.map V.int, rfl, hk.exb b2 pI, fun J G wk hG D hD => dc_true wk hG hD (by rw [List.length_map]; omega) kS (fun x hx => ?_) (fun _ => rfl) (fun _ => rfl) fun H3 e3 hD3 => ?_⟩
  · obtain ⟨n, _, rfl⟩ := List.mem_map.mp hx
    rfl
  rw [kS_int] at hD3
  obtain ⟨zs, ek, nd2, mem2, len2⟩ := kset_ints ks
  refine ⟨D, _, rfl, hD3, fun o D2 hD2 => ?_⟩
  have l0 : (kset (ks.map (Sum.inl : Int → Key))).length = zs.length := by
    have := congrArg List.length ek
    rwa [List.length_map, List.length_map] at this
  have hne : D2 ≠ D := fun z => by rw [z, upd_same] at hD2; cases hD2
  have hD2' : H2 D2 = none := e3.free (by rw [upd_ne hne] at hD2; exact hD2)
  refine lc_it walk_keys (fun i H4 => Ex H2 H4 ∧ H4 D = some (.frz o (.dK (kset (ks.map (Sum.inl : Int → Key))))) ∧ H4 D2 = some (.lst ((zs.take i).map V.int))) ⟨(Ex.mut e3 hD).mut hD2', by rw [upd_ne hne.symm, upd_same], by rw [upd_same]; rfl⟩ (fun i H2 _ p => p.2.1) (fun i x H4 H5 hi p y => ?_) (fun H4 p4 => ?_)
  · obtain ⟨rfl, k, v, hk, rfl⟩ := y
    have hi2 : i < zs.length := by omega
    have ek2 : k = Sum.inl zs[i] := by
      have e3 : ((kset (ks.map (Sum.inl : Int → Key))).map (·.1))[i]? = some k := by rw [List.getElem?_map, hk]; rfl
      rw [ek, List.getElem?_map, List.getElem?_eq_getElem hi2] at e3
      exact (Option.some.inj e3).symm
    subst ek2
    refine ⟨rfl, ?_⟩
    refine ⟨_, rfl, .inl ⟨zs[i], rfl, _, p.2.2, by rw [List.length_map, List.length_take, sizeLine_eq]; omega, p.1.mut hD2', by rw [upd_ne hne.symm]; exact p.2.1, ?_⟩⟩
    rw [upd_same, List.take_succ, List.getElem?_eq_getElem hi2, List.map_append]
    rfl
  refine ⟨D2, zs, rfl, SqL.of (by rw [← List.take_length (l := zs), ← l0]; exact p4.2.2), by omega, fun ws p2 pm srt2 hp2 => ?_⟩
  refine ⟨p2, _, rfl, .inl ⟨SqL.of upd_same, fun t2 ht2 => ?_⟩⟩
  have e5 : Ex H2 (upd (upd H4 p2 (.lst (ws.map V.int))) t2 (.tup (ws.map V.int))) := (p4.1.trans (Ex.new hp2)).trans (Ex.new ht2)
  refine ⟨_, rfl, p, B cl, dx, _, rfl, e5 _ _ g2, hcl, n2, (by show 1 < 1000; decide), ?_⟩
  generalize hH6 : upd (upd (upd H4 p2 (.lst (ws.map V.int))) t2 (.tup (ws.map V.int))) p (.ins (B cl) dx (putF "own_constants" (.ref t2) [("own_columns", .ref t1)])) = H6
  have hpt2 : t2 ≠ p := fun z => by rw [z] at ht2; rw [(p4.1.trans (Ex.new hp2)) _ _ g2] at ht2; cases ht2
  have b6 : ExB p H2 H6 := by rw [← hH6]; exact (ex_b e5).put
  have g6 : H6 p = some (.ins (B cl) dx [("own_columns", .ref t1), ("own_constants", .ref t2)]) := by rw [← hH6, upd_same]; rfl
  have g6t : H6 t2 = some (.tup (ws.map V.int)) := by rw [← hH6, upd_ne hpt2, upd_same]
  have g6t1 : H6 t1 = some (.tup (ys.map V.str)) := b6 _ _ hpt1 g2t
  -- the links
  have fin : ∀ t3 H7, Ex H6 H7 → H7 t3 = some (.tup ls) → Q .non (upd H7 p (.ins (B cl) dx (putF "own_links" (.ref t3) [("own_columns", .ref t1), ("own_constants", .ref t2)]))) := fun t3 H7 e7 h7 => by
    have ne : ∀ {t xs}, H7 t = some (.tup xs) → t ≠ p := fun {t xs} h z => by
      rw [z, e7 _ _ g6] at h
      cases h
    have bb : ExB p H (upd H7 p (.ins (B cl) dx (putF "own_links" (.ref t3) [("own_columns", .ref t1), ("own_constants", .ref t2)]))) := ((b2.trans b6).ex e7).put
    refine q _ t1 t2 t3 ws bb (by rw [upd_same]; rfl) ⟨⟨ys, by rw [upd_ne hpt1]; exact e7 _ _ g6t1, nd1, fun x hx => hcN x ((mem1 x).mp hx)⟩, by rw [upd_ne hpt2]; exact e7 _ _ g6t, pm.symm.nodup nd2, fun x hx => hkS x ((mem2 x).mp (pm.mem_iff.mp hx)), ⟨ls, by rw [upd_ne (ne h7)]; exact h7, hL.exb bb pI⟩⟩ (fun x => by rw [pm.mem_iff]; exact mem2 x)
  rcases hl with hl' | hl'
  · have hl' := exb_l (b2.trans b6) pI hl'
    refine ⟨_, rfl, l, ls, rfl, .inl ⟨hl', fun t3 ht3 => ?_⟩⟩
    exact ⟨_, rfl, p, B cl, dx, _, rfl, (Ex.new ht3) _ _ g6, hcl, n3, (by show 2 < 1000; decide), fin t3 _ (Ex.new ht3) upd_same⟩
  · have hl' : H6 l = some (.tup ls) := (b2.trans b6) _ _ (fun z => by rw [z, hp] at hl'; cases hl') hl'
    refine ⟨_, rfl, l, ls, rfl, .inr ⟨SqT.of hl', ?_⟩⟩
    exact ⟨_, rfl, p, B cl, dx, _, rfl, g6, hcl, n3, (by show 2 < 1000; decide), fin l _ (Ex.refl _) hl'⟩
/-! ### properties, leaves -/
def HdAt (B : Cl → Addr) (N : List Str) (S : List Int) (H : Hp) (p : Addr) (cl : Cl) (t1 t2 t3 : Addr) (ks : List Int) : Prop := ∃ dx r, H p = some (.ins (B cl) dx (hdr t1 t2 t3 ++ r)) ∧ Hd N S H t1 t2 t3 ks
theorem lk_cols (t1 t2 t3 : Addr) (r : List (Str × V)) : (hdr t1 t2 t3 ++ r).lookup ("own_columns" : Str) = some (.ref t1) := by rfl
theorem lk_cons (t1 t2 t3 : Addr) (r : List (Str × V)) : (hdr t1 t2 t3 ++ r).lookup ("own_constants" : Str) = some (.ref t2) := by rfl
theorem lk_links (t1 t2 t3 : Addr) (r : List (Str × V)) : (hdr t1 t2 t3 ++ r).lookup ("own_links" : Str) = some (.ref t3) := by rfl
def spProp (B : Cl → Addr) (f : Str) : Sp := fun vs H Q _ => ∃ (p dx : Addr) (cl : Cl) (fs : List (Str × V)) (v : V), vs = [.ref p] ∧ H p = some (.ins (B cl) dx fs) ∧ fs.lookup f = some v ∧ Q v H
theorem sc_cols : FnScope ["self"] ["self"] (defScope (Df.st .dFilter_columns)) := ⟨rfl, rfl, rfl, by decide +kernel, rfl, by decide +kernel, by decide +kernel⟩
theorem ok_cols (T : Txt P K mg A B Z) : FnR P w K mg base CX0 1 (A .dFilter_columns) (spProp B "own_columns") := by
  refine (T.d0 .dFilter_columns).fn sc_cols (fun _ _ _ _ _ _ us h => by obtain ⟨a, rfl⟩ := len1 h; rfl) (fun vs H Q E h => by obtain ⟨_, _, _, _, _, rfl, _⟩ := h; rfl) fun cdv Ar outer s H vs Q E hr h => ?_
  obtain ⟨p, dx, cl, fs, v, rfl, hp, hl, q⟩ := h
  refine ⟨_, pss_one (ps_ret (pe_fld (pv 0) rfl)), ?_⟩
  exact ⟨_, rfl, p, B cl, dx, _, _, rfl, hp, T.cls cl, T.no cl _ (by decide), hl, q⟩
theorem sc_cons : FnScope ["self"] ["self"] (defScope (Df.st .dFilter_constants)) := ⟨rfl, rfl, rfl, by decide +kernel, rfl, by decide +kernel, by decide +kernel⟩
theorem ok_cons (T : Txt P K mg A B Z) : FnR P w K mg base CX0 1 (A .dFilter_constants) (spProp B "own_constants") := by
  refine (T.d0 .dFilter_constants).fn sc_cons (fun _ _ _ _ _ _ us h => by obtain ⟨a, rfl⟩ := len1 h; rfl) (fun vs H Q E h => by obtain ⟨_, _, _, _, _, rfl, _⟩ := h; rfl) fun cdv Ar outer s H vs Q E hr h => ?_
  obtain ⟨p, dx, cl, fs, v, rfl, hp, hl, q⟩ := h
  refine ⟨_, pss_one (ps_ret (pe_fld (pv 0) rfl)), ?_⟩
  exact ⟨_, rfl, p, B cl, dx, _, _, rfl, hp, T.cls cl, T.no cl _ (by decide), hl, q⟩
theorem sc_links : FnScope ["self"] ["self"] (defScope (Df.st .dFilter_links)) := ⟨rfl, rfl, rfl, by decide +kernel, rfl, by decide +kernel, by decide +kernel⟩
theorem ok_links (T : Txt P K mg A B Z) : FnR P w K mg base CX0 1 (A .dFilter_links) (spProp B "own_links") := by
  refine (T.d0 .dFilter_links).fn sc_links (fun _ _ _ _ _ _ us h => by obtain ⟨a, rfl⟩ := len1 h; rfl) (fun vs H Q E h => by obtain ⟨_, _, _, _, _, rfl, _⟩ := h; rfl) fun cdv Ar outer s H vs Q E hr h => ?_
  obtain ⟨p, dx, cl, fs, v, rfl, hp, hl, q⟩ := h
  refine ⟨_, pss_one (ps_ret (pe_fld (pv 0) rfl)), ?_⟩
  exact ⟨_, rfl, p, B cl, dx, _, _, rfl, hp, T.cls cl, T.no cl _ (by decide), hl, q⟩
end
end Hs
set_option Elab.async false
set_option linter.all false
set_option maxRecDepth 100000
set_option maxHeartbeats 4000000
/-! Filters by their height: methods told by the class. -/
namespace Hs
open PySem PySem.Spec PyProof.Rows L2
def fltI : Cl → Bool
  | .cLess | .cAtMost | .cSame | .cAmong | .cMissing | .cAlways | .cNever | .cTurned | .cBoth | .cEither => true
  | _ => false
def cmpI : Cl → Bool
  | .cLess | .cAtMost | .cSame => true
  | _ => false
theorem flt_cl (F : Flt) : fltI F.cl = true := by
  cases F with
  | cmp o a b => cases o <;> rfl
  | fixed b => cases b <;> rfl
  | _ => rfl
theorem flt_C (F : Flt) : fltC F.cl = true := by
  cases F with
  | cmp o a b => cases o <;> rfl
  | fixed b => cases b <;> rfl
  | _ => rfl
theorem rest_no {B : Cl → Addr} {N : List Str} {S : List Int} {H : Hp} {ks : List Int} {F : Flt} {r : List (Str × V)} (h : Rest B N S H ks F r) (t1 t2 t3 : Addr) (m : Mt) (hm : m = .mjudged ∨ m = .mleaves ∨ m = .mlen ∨ m = .mled ∨ m = .mis_so ∨ m = .mmirrored ∨ m = .minvert) : (hdr t1 t2 t3 ++ r).lookup m.nm = none := by
  have e : ∀ x y : V, (hdr t1 t2 t3 ++ r2 x y).lookup m.nm = none := fun x y => by rcases hm with rfl | rfl | rfl | rfl | rfl | rfl | rfl <;> rfl
  cases F with
  | cmp o a b => obtain ⟨rfl, _⟩ := h; exact e _ _
  | among c vs => obtain ⟨rfl, _⟩ := h; rcases hm with rfl | rfl | rfl | rfl | rfl | rfl | rfl <;> rfl
  | missing c => obtain ⟨rfl, _⟩ := h; rcases hm with rfl | rfl | rfl | rfl | rfl | rfl | rfl <;> rfl
  | fixed b => cases (show r = [] ∧ ks = [] from h).1; rcases hm with rfl | rfl | rfl | rfl | rfl | rfl | rfl <;> rfl
  | turned f => obtain ⟨_, _, _, _, _, _, _, rfl, _⟩ := h; rcases hm with rfl | rfl | rfl | rfl | rfl | rfl | rfl <;> rfl
  | both f g => obtain ⟨_, _, _, _, _, _, _, _, _, _, _, _, _, _, rfl, _⟩ := h; exact e _ _
  | either f g => obtain ⟨_, _, _, _, _, _, _, _, _, _, _, _, _, _, rfl, _⟩ := h; exact e _ _
/-- what is asked when F stands at p, by the method's further arguments -/
abbrev Jn := List Str → List Int → Flt → Addr → List V → Hp → VK → Prop
def SPd (B : Cl → Addr) (m : Mt) (n : Nat) (d : Df) (J : Jn) : Sp := fun vs H Q _ => ∃ F p ws N S, vs = .ref p :: ws ∧ FltAt B N S H F p ∧ F.ht ≤ n ∧ look F.cl m = some d ∧ J N S F p ws H Q
def SPc (B : Cl → Addr) (m : Mt) (n : Nat) (J : Jn) : Addr → Sp := fun C vs H Q _ => ∃ F p ws N S, vs = .ref p :: ws ∧ FltAt B N S H F p ∧ F.ht ≤ n ∧ B F.cl = C ∧ J N S F p ws H Q
def GoodF (B : Cl → Addr) (gd : Cl → Bool) (C : Addr) : Prop := ∃ cl, C = B cl ∧ gd cl = true
abbrev MAny (P : Program) (w : World) (K : PySem.W.Frag) (mg : Str → Option Value) (base : Heap) (m : Str) (k : Nat) (SP : Addr → Sp) (Good : Addr → Prop) : Prop :=
  ∀ C, Good C → Cls K C ∧ ∃ f, Meth K C m f ∧ FnR P w K mg base CX0 k f (SP C)
section
variable {P : Program} {w : World} {K : PySem.W.Frag} {mg : Str → Option Value} {base : Heap} {A : Df → Addr} {B Z : Cl → Addr}
theorem meth_all (T : Txt P K mg A B Z) {m : Mt} {n k : Nat} {J : Jn} {gd : Cl → Bool} (h : ∀ cl, gd cl = true → ∃ d, look cl m = some d ∧ FnR P w K mg base CX0 k (A d) (SPd B m n d J)) : MAny P w K mg base m.nm k (SPc B m n J) (GoodF B gd) := by
  rintro C ⟨cl, rfl, g⟩
  obtain ⟨d, hd, F⟩ := h cl g
  refine ⟨T.cls cl, A d, ⟨T.fnd cl m d hd, T.isF d, (T.dk d).kp⟩, F.imp fun vs H Q E h => ?_⟩
  obtain ⟨F, p, ws, N, S, e, h1, h2, h3, h4⟩ := h
  exact ⟨F, p, ws, N, S, e, h1, h2, by rw [T.inj _ _ h3]; exact hd, h4⟩
theorem meth_mono {m : Str} {j k : Nat} {SP : Addr → Sp} {Good : Addr → Prop} (h : MAny P w K mg base m j SP Good) (hk : j ≤ k) : MAny P w K mg base m k SP Good := fun C g =>
  let ⟨c, f, hm, F⟩ := h C g; ⟨c, f, hm, F.mono hk⟩
/-- x is False, x is True; x a bool or None -/
def rIsBN : R2 := fun x y H Q => ∃ (o : Option Bool) (b : Bool), x = oB o ∧ y = .bl b ∧ Q (.bl (decide (o = some b))) H
theorem op_isBN {X : Cx} : OpR X (compareOp .Is) rIsBN := by
  intro pins s σ H x y v u Q I rx ry h
  obtain ⟨o, b, rfl, rfl, q⟩ := h
  cases o with
  | none =>
    cases (show v = Value.none from rx)
    cases (show u = Value.bool b from ry)
    exact wpAny_is_other rfl (fun z => nomatch z) ⟨.bl false, H, I, rfl, q⟩
  | some c => exact op_isBl pins s σ H (.bl c) (.bl b) v u Q I rx ry ⟨c, b, rfl, rfl, by
      have e : decide (some c = some b) = decide (c = b) := by simp
      rw [e] at q; exact q⟩
/-! ### side_at -/
theorem at_val {N : List Str} (nd : N.Nodup) {r : List (Option Int)} (hl : r.length = N.length) {c : Str} (hc : c ∈ N) : valV ((N.map (Sum.inr : Str → Key)).zip (r.map oV)) (Sum.inr c) = some (oV (at' N r c)) := by
  induction N generalizing r with
  | nil => cases hc
  | cons n N ih =>
    cases r with
    | nil => cases hl
    | cons o r =>
      rw [List.map_cons, List.map_cons, List.zip_cons_cons]
      have nd' := List.nodup_cons.mp nd
      by_cases e : n = c
      · subst e
        rw [valV_pos rfl]
        show some (oV o) = some (oV (at' (n :: N) (o :: r) n))
        unfold at'
        rw [List.zip_cons_cons, List.lookup_cons, beq_self_eq_true]
      · rw [valV_neg (fun z => e (Sum.inr.inj z))]
        have hc' : c ∈ N := by
          rcases List.mem_cons.mp hc with h | h
          · exact absurd h.symm e
          · exact h
        rw [ih nd'.2 (by simpa using hl) hc']
        unfold at'
        have e2 : (c == n) = false := beq_eq_false_iff_ne.mpr (fun z => e z.symm)
        rw [List.zip_cons_cons, List.lookup_cons, e2]
/-- the row's table -/
def RowAt (N : List Str) (r : List (Option Int)) (H : Hp) (a : Addr) : Prop := H a = some (.dK ((N.map (Sum.inr : Str → Key)).zip (r.map oV))) ∧ r.length = N.length ∧ N.Nodup
theorem RowAt.mono {N : List Str} {r : List (Option Int)} {H H' : Hp} {a : Addr} (h : RowAt N r H a) (e : Ex H H') : RowAt N r H' a := ⟨e _ _ h.1, h.2⟩
def spSideAt : Sp := fun vs H Q _ => ∃ (a : Addr) (N : List Str) (r : List (Option Int)) (sd : Side), vs = [sv sd, .ref a] ∧ RowAt N r H a ∧ (∀ c, sd = .col c → c ∈ N) ∧ Q (oV (sd.val (at' N r))) H
theorem sc_side_at : FnScope ["side", "row"] ["side", "row"] (defScope (Df.st .dside_at)) := ⟨rfl, rfl, rfl, by decide +kernel, rfl, by decide +kernel, by decide +kernel⟩
theorem ok_side_at (T : Txt P K mg A B Z) : FnR P w K mg base CX0 1 (A .dside_at) spSideAt := by
  refine (T.d0 .dside_at).fn sc_side_at (fun _ _ _ _ _ _ us h => by obtain ⟨a, b, rfl⟩ := len2 h; rfl) (fun vs H Q E h => by obtain ⟨_, _, _, _, rfl, _⟩ := h; rfl) fun cdv Ar outer s H vs Q E hr h => ?_
  obtain ⟨a, N, r, sd, rfl, ha, hc, q⟩ := h
  have hu := hu_of hr
  refine ⟨_, pss_one (ps_ret (pe_ifExp (pt_val (pe_isT (n := "str") (pv 0) rfl (T.blt _ (by decide)) rfl (T.blt _ (by decide)) (by decide +kernel))) (pe_dget hu (pv 1) (pv 0) (fun _ _ => rfl)) (pv 0))), ?_⟩
  cases sd with
  | col c => exact ⟨_, rfl, _, true, .base (.str _), k_str_str, true, rfl, iteT ⟨_, rfl, _, rfl, a, _, rfl, .inl ⟨_, Sum.inr c, .inl ha.1, rfl, (at_val ha.2.2 ha.2.1 (hc c rfl)).symm⟩, q⟩⟩
  | num i => exact ⟨_, rfl, _, false, .base (.int _), k_int_str, false, rfl, iteF ⟨_, rfl, q⟩⟩
end
end Hs
set_option Elab.async false
set_option linter.all false
set_option maxRecDepth 100000
set_option maxHeartbeats 4000000
/-! judged. -/
namespace Hs
open PySem PySem.Spec PyProof.Rows L2
section
variable {P : Program} {w : World} {K : PySem.W.Frag} {mg : Str → Option Value} {base : Heap} {A : Df → Addr} {B Z : Cl → Addr}
def Jso : Jn := fun N S F p ws H Q => ∃ o a b i j, F = .cmp o a b ∧ ws = [.int i, .int j] ∧ Q (.bl (o.so i j)) H
def Jju : Jn := fun N S F p ws H Q => ∃ a r, ws = [.ref a] ∧ RowAt N r H a ∧ ∀ H', Ex H H' → Q (oB (F.eval (at' N r))) H'
theorem lk_so {F : Flt} {d : Df} (h : look F.cl .mis_so = some d) : (∃ a b, F = .cmp .lt a b ∧ d = .dLess_is_so) ∨ (∃ a b, F = .cmp .le a b ∧ d = .dAtMost_is_so) ∨ ∃ a b, F = .cmp .eq a b ∧ d = .dCompared_is_so := by
  cases F with
  | cmp o a b =>
    cases o
    · exact .inl ⟨a, b, rfl, (Option.some.inj h).symm⟩
    · exact .inr (.inl ⟨a, b, rfl, (Option.some.inj h).symm⟩)
    · exact .inr (.inr ⟨a, b, rfl, (Option.some.inj h).symm⟩)
  | fixed b => cases b <;> cases h
  | _ => cases h
theorem sc_so1 : FnScope ["self", "one", "other"] ["self", "one", "other"] (defScope (Df.st .dLess_is_so)) := ⟨rfl, rfl, rfl, by decide +kernel, rfl, by decide +kernel, by decide +kernel⟩
theorem sc_so2 : FnScope ["self", "one", "other"] ["self", "one", "other"] (defScope (Df.st .dAtMost_is_so)) := ⟨rfl, rfl, rfl, by decide +kernel, rfl, by decide +kernel, by decide +kernel⟩
theorem sc_so3 : FnScope ["self", "one", "other"] ["self", "one", "other"] (defScope (Df.st .dCompared_is_so)) := ⟨rfl, rfl, rfl, by decide +kernel, rfl, by decide +kernel, by decide +kernel⟩
theorem ok_so1 (T : Txt P K mg A B Z) (n : Nat) : FnR P w K mg base CX0 1 (A .dLess_is_so) (SPd B .mis_so n .dLess_is_so Jso) := by
  refine (T.d0 .dLess_is_so).fn sc_so1 (fun _ _ _ _ _ _ us h => by obtain ⟨a, b, c, rfl⟩ := len3 h; rfl) (fun vs H Q E h => by obtain ⟨_, _, _, _, _, rfl, _, _, _, _, _, _, _, _, _, rfl, _⟩ := h; rfl) fun cdv Ar outer s H vs Q E hr h => ?_
  obtain ⟨F, p, ws, N, S, rfl, hF, _, hd, o, a, b, i, j, rfl, rfl, q⟩ := h
  refine ⟨_, pss_one (ps_ret (pe_cmpR op_lt (pv 1) (pv 2) (nomark _))), ?_⟩
  refine ⟨_, rfl, _, rfl, i, j, rfl, rfl, ?_⟩
  cases o <;> first | exact q | cases hd
theorem ok_so2 (T : Txt P K mg A B Z) (n : Nat) : FnR P w K mg base CX0 1 (A .dAtMost_is_so) (SPd B .mis_so n .dAtMost_is_so Jso) := by
  refine (T.d0 .dAtMost_is_so).fn sc_so2 (fun _ _ _ _ _ _ us h => by obtain ⟨a, b, c, rfl⟩ := len3 h; rfl) (fun vs H Q E h => by obtain ⟨_, _, _, _, _, rfl, _, _, _, _, _, _, _, _, _, rfl, _⟩ := h; rfl) fun cdv Ar outer s H vs Q E hr h => ?_
  obtain ⟨F, p, ws, N, S, rfl, hF, _, hd, o, a, b, i, j, rfl, rfl, q⟩ := h
  refine ⟨_, pss_one (ps_ret (pe_cmpR op_le (pv 1) (pv 2) (nomark _))), ?_⟩
  refine ⟨_, rfl, _, rfl, i, j, rfl, rfl, ?_⟩
  cases o <;> first | exact q | cases hd
theorem ok_so3 (T : Txt P K mg A B Z) (n : Nat) : FnR P w K mg base CX0 1 (A .dCompared_is_so) (SPd B .mis_so n .dCompared_is_so Jso) := by
  refine (T.d0 .dCompared_is_so).fn sc_so3 (fun _ _ _ _ _ _ us h => by obtain ⟨a, b, c, rfl⟩ := len3 h; rfl) (fun vs H Q E h => by obtain ⟨_, _, _, _, _, rfl, _, _, _, _, _, _, _, _, _, rfl, _⟩ := h; rfl) fun cdv Ar outer s H vs Q E hr h => ?_
  obtain ⟨F, p, ws, N, S, rfl, hF, _, hd, o, a, b, i, j, rfl, rfl, q⟩ := h
  refine ⟨_, pss_one (ps_ret (pe_cmpR op_eq (pv 1) (pv 2) (nomark _))), ?_⟩
  refine ⟨_, rfl, _, rfl, rfl, ?_⟩
  cases o <;> first | (have e : decide (V.int i = V.int j) = decide (i = j) := by simp
                       rw [e]; exact q) | cases hd
theorem so_any (T : Txt P K mg A B Z) (n : Nat) : MAny P w K mg base "is_so" 1 (SPc B .mis_so n Jso) (GoodF B cmpI) := meth_all (m := .mis_so) T fun cl g => by
  cases cl <;> first | exact absurd g (by decide) | exact ⟨_, rfl, ok_so1 T n⟩ | exact ⟨_, rfl, ok_so2 T n⟩ | exact ⟨_, rfl, ok_so3 T n⟩
theorem sc_jC : FnScope ["self", "row", "one", "other"] ["self", "row"] (defScope (Df.st .dCompared_judged)) := ⟨rfl, rfl, rfl, by decide +kernel, rfl, by decide +kernel, by decide +kernel⟩
theorem ok_jC (T : Txt P K mg A B Z) (n : Nat) : FnR P w K mg base CX0 2 (A .dCompared_judged) (SPd B .mjudged n .dCompared_judged Jju) := by
  refine (T.d0 .dCompared_judged).fn sc_jC (fun _ _ _ _ _ _ us h => by obtain ⟨a, b, rfl⟩ := len2 h; rfl) (fun vs H Q E h => by obtain ⟨_, _, _, _, _, rfl, _, _, _, _, _, rfl, _⟩ := h; rfl) fun cdv Ar outer s H vs Q E hr h => ?_
  obtain ⟨F, p, ws, N, S, rfl, hF, hn, hd, a, r, rfl, ha, q⟩ := h
  have hF0 := hF
  obtain ⟨dx, t1, t2, t3, ks, rr, hp, hH, hR⟩ := hF
  have nd := sc_jC.nd
  refine ⟨_, pss_cons (ps_par (i := 2) (j := 3) rfl nd rfl rfl (by decide) rfl rfl (pa_cons (pe_fn (ok_side_at T) hr rfl (T.gD .dside_at rfl) (T.dk .dside_at).kp (pa_cons (pe_fld (pv 0) rfl) (pa_cons (pv 1) pa_nil))) (pa_cons (pe_fn (ok_side_at T) hr rfl (T.gD .dside_at rfl) (T.dk .dside_at).kp (pa_cons (pe_fld (pv 0) rfl) (pa_cons (pv 1) pa_nil))) pa_nil)) (by rfl))
    (pss_one (ps_ret (pe_ifExp (PW.pt (pw_or (pt_cmp (pc_isN (pv 2))) (pw_or1 (pt_cmp (pc_isN (pv 3)))))) pe_non (pe_ma (pv 0) (so_any T n) hr (pa_cons (pv 2) (pa_cons (pv 3) pa_nil)))))), ?_⟩
  have hF' : ∃ o x y, F = .cmp o x y := by
    cases F with
    | cmp o x y => exact ⟨o, x, y, rfl⟩
    | fixed b => cases b <;> cases hd
    | _ => cases hd
  obtain ⟨o, x, y, rfl⟩ := hF'
  obtain ⟨rfl, hx, hy, _⟩ := hR
  refine ⟨_, rfl, p, _, dx, _, _, rfl, hp, T.cls _, T.no _ _ (by decide), rfl, _, rfl, a, N, r, x, rfl, ha, fun c e => by subst e; exact hx, ?_⟩
  refine ⟨_, rfl, p, _, dx, _, _, rfl, hp, T.cls _, T.no _ _ (by decide), rfl, _, rfl, a, N, r, y, rfl, ha, fun c e => by subst e; exact hy, ?_⟩
  refine ⟨_, _, rfl, ?_⟩
  have fin := q H (Ex.refl H)
  refine ⟨_, rfl, _, rfl, ?_⟩
  cases ex : x.val (at' N r) with
  | none =>
    refine iteT (iteT ?_)
    unfold Flt.eval at fin
    rw [ex] at fin
    exact fin
  | some i =>
    refine iteF ⟨_, rfl, _, rfl, ?_⟩
    cases ey : y.val (at' N r) with
    | none =>
      refine iteT ?_
      unfold Flt.eval at fin
      rw [ex, ey] at fin
      exact fin
    | some j =>
      refine iteF ⟨_, rfl, p, _, dx, _, rfl, hp, ⟨_, rfl, by cases o <;> rfl⟩, rfl, _, rfl, _, rfl, ?_⟩
      refine ⟨_, p, _, N, S, rfl, hF0, hn, rfl, o, x, y, i, j, rfl, rfl, ?_⟩
      unfold Flt.eval at fin
      rw [ex, ey] at fin
      exact fin
end
end Hs
set_option Elab.async false
set_option linter.all false
set_option maxRecDepth 100000
set_option maxHeartbeats 4000000
/-! judged, further. -/
namespace Hs
open PySem PySem.Spec PyProof.Rows L2
section
variable {P : Program} {w : World} {K : PySem.W.Frag} {mg : Str → Option Value} {base : Heap} {A : Df → Addr} {B Z : Cl → Addr}
theorem inV_int {c : Int} {N : List Int} : inV (.int c) (N.map V.int) = decide (c ∈ N) := by
  unfold inV
  rw [Bool.eq_iff_iff, List.any_eq_true, decide_eq_true_iff]
  constructor
  · rintro ⟨y, hy, e⟩
    obtain ⟨n, hn, rfl⟩ := List.mem_map.mp hy
    have : n = c := by simpa [eqV] using e
    exact this ▸ hn
  · intro h
    exact ⟨.int c, List.mem_map_of_mem h, by simp [eqV]⟩
theorem flat_ints (N : List Int) : (N.map V.int).all flatV = true := by
  rw [List.all_eq_true]
  intro x hx
  obtain ⟨n, _, rfl⟩ := List.mem_map.mp hx
  rfl
theorem sc_jA : FnScope ["self", "row", "value"] ["self", "row"] (defScope (Df.st .dAmong_judged)) := ⟨rfl, rfl, rfl, by decide +kernel, rfl, by decide +kernel, by decide +kernel⟩
theorem ok_jA (T : Txt P K mg A B Z) (n : Nat) : FnR P w K mg base CX0 1 (A .dAmong_judged) (SPd B .mjudged n .dAmong_judged Jju) := by
  refine (T.d0 .dAmong_judged).fn sc_jA (fun _ _ _ _ _ _ us h => by obtain ⟨a, b, rfl⟩ := len2 h; rfl) (fun vs H Q E h => by obtain ⟨_, _, _, _, _, rfl, _, _, _, _, _, rfl, _⟩ := h; rfl) fun cdv Ar outer s H vs Q E hr h => ?_
  obtain ⟨F, p, ws, N, S, rfl, ⟨dx, t1, t2, t3, ks, rr, hp, hH, hR⟩, hn, hd, a, r, rfl, ha, q⟩ := h
  have nd := sc_jA.nd
  have hu := hu_of hr
  refine ⟨_, pss_cons (ps_set (i := 2) nd rfl (.inl rfl) (pe_dget hu (pv 1) (pe_fld (pv 0) rfl) (fun _ _ => rfl)))
    (pss_one (ps_ret (pe_ifExp (pt_cmp (pc_isN (pv 2))) pe_non (pe_cmpR op_in_seq (pv 2) (pe_fld (pv 0) rfl) (by rfl))))), ?_⟩
  have hF' : ∃ c vs, F = .among c vs := by
    cases F with
    | among c vs => exact ⟨c, vs, rfl⟩
    | cmp o a b => cases o <;> cases hd
    | fixed b => cases b <;> cases hd
    | _ => cases hd
  obtain ⟨c, vs, rfl⟩ := hF'
  obtain ⟨rfl, hc, hk, _⟩ := hR
  refine ⟨_, rfl, _, rfl, p, _, dx, _, _, rfl, hp, T.cls _, T.no _ _ (by decide), rfl, a, _, rfl, .inl ⟨_, Sum.inr c, .inl ha.1, rfl, (at_val ha.2.2 ha.2.1 hc).symm⟩, ?_⟩
  have fin := q H (Ex.refl H)
  unfold Flt.eval at fin
  refine ⟨_, rfl, _, rfl, ?_⟩
  cases e : at' N r c with
  | none =>
    rw [e] at fin
    exact iteT fin
  | some v =>
    rw [e] at fin
    refine iteF ⟨_, rfl, _, rfl, p, _, dx, _, _, rfl, hp, T.cls _, T.no _ _ (by decide), rfl, t2, ks.map V.int, rfl, .inr (SqT.of hH.kt), rfl, flat_ints ks, ?_⟩
    show Q (.bl (if false = true then !inV (.int v) (ks.map V.int) else inV (.int v) (ks.map V.int))) H
    have e2 : decide (v ∈ ks) = decide (v ∈ vs) := by simp [hk]
    rw [if_neg Bool.false_ne_true, inV_int, e2]
    exact fin
theorem sc_jM : FnScope ["self", "row"] ["self", "row"] (defScope (Df.st .dMissing_judged)) := ⟨rfl, rfl, rfl, by decide +kernel, rfl, by decide +kernel, by decide +kernel⟩
theorem ok_jM (T : Txt P K mg A B Z) (n : Nat) : FnR P w K mg base CX0 1 (A .dMissing_judged) (SPd B .mjudged n .dMissing_judged Jju) := by
  refine (T.d0 .dMissing_judged).fn sc_jM (fun _ _ _ _ _ _ us h => by obtain ⟨a, b, rfl⟩ := len2 h; rfl) (fun vs H Q E h => by obtain ⟨_, _, _, _, _, rfl, _, _, _, _, _, rfl, _⟩ := h; rfl) fun cdv Ar outer s H vs Q E hr h => ?_
  obtain ⟨F, p, ws, N, S, rfl, ⟨dx, t1, t2, t3, ks, rr, hp, hH, hR⟩, hn, hd, a, r, rfl, ha, q⟩ := h
  have hu := hu_of hr
  refine ⟨_, pss_one (ps_ret (pe_cmp (pc_isN (pe_dget hu (pv 1) (pe_fld (pv 0) rfl) (fun _ _ => rfl))) rfl)), ?_⟩
  have hF' : ∃ c, F = .missing c := by
    cases F with
    | missing c => exact ⟨c, rfl⟩
    | cmp o a b => cases o <;> cases hd
    | fixed b => cases b <;> cases hd
    | _ => cases hd
  obtain ⟨c, rfl⟩ := hF'
  obtain ⟨rfl, hc⟩ := hR
  refine ⟨_, rfl, _, rfl, p, _, dx, _, _, rfl, hp, T.cls _, T.no _ _ (by decide), rfl, a, _, rfl, .inl ⟨_, Sum.inr c, .inl ha.1, rfl, (at_val ha.2.2 ha.2.1 hc).symm⟩, ?_⟩
  have fin := q H (Ex.refl H)
  unfold Flt.eval at fin
  have e : decide (oV (at' N r c) = .non) = decide (at' N r c = none) := by cases at' N r c <;> simp [oV]
  show Q (.bl (decide (oV (at' N r c) = .non))) H
  rw [e]
  exact fin
theorem sc_jF : FnScope ["self", "row"] ["self", "row"] (defScope (Df.st .dFixed_judged)) := ⟨rfl, rfl, rfl, by decide +kernel, rfl, by decide +kernel, by decide +kernel⟩
theorem ok_jF (T : Txt P K mg A B Z) (n : Nat) : FnR P w K mg base CX0 1 (A .dFixed_judged) (SPd B .mjudged n .dFixed_judged Jju) := by
  refine (T.d0 .dFixed_judged).fn sc_jF (fun _ _ _ _ _ _ us h => by obtain ⟨a, b, rfl⟩ := len2 h; rfl) (fun vs H Q E h => by obtain ⟨_, _, _, _, _, rfl, _, _, _, _, _, rfl, _⟩ := h; rfl) fun cdv Ar outer s H vs Q E hr h => ?_
  obtain ⟨F, p, ws, N, S, rfl, ⟨dx, t1, t2, t3, ks, rr, hp, hH, hR⟩, hn, hd, a, r, rfl, ha, q⟩ := h
  refine ⟨_, pss_one (ps_ret (pe_callTy call_bool1 rfl (T.blt _ (by decide)) (by decide +kernel) (pa_cons (pe_con (pv 0) rfl) pa_nil))), ?_⟩
  have hF' : ∃ b, F = .fixed b := by
    cases F with
    | fixed b => exact ⟨b, rfl⟩
    | cmp o a b => cases o <;> cases hd
    | _ => cases hd
  obtain ⟨b, rfl⟩ := hF'
  obtain ⟨rfl, _⟩ := (show rr = [] ∧ ks = [] from hR)
  obtain ⟨k1, k2⟩ := T.tru (if b then .cAlways else .cNever) b (by cases b <;> rfl)
  refine ⟨_, rfl, p, _, dx, _, .bl b, _, rfl, hp, T.cls _, ⟨k1, rfl, k2, by decide +kernel⟩, rfl, .inr ⟨b, rfl, q H (Ex.refl H)⟩⟩
theorem sc_jT : FnScope ["self", "row"] ["self", "row"] (defScope (Df.st .dTurned_judged)) := ⟨rfl, rfl, rfl, by decide +kernel, rfl, by decide +kernel, by decide +kernel⟩
theorem ok_jT (T : Txt P K mg A B Z) (n k : Nat) (hk : 1 ≤ k) (M : MAny P w K mg base "judged" k (SPc B .mjudged n Jju) (GoodF B fltI)) : FnR P w K mg base CX0 (k + 1) (A .dTurned_judged) (SPd B .mjudged (n + 1) .dTurned_judged Jju) := by
  refine (T.d0 .dTurned_judged).fn sc_jT (fun _ _ _ _ _ _ us h => by obtain ⟨a, b, rfl⟩ := len2 h; rfl) (fun vs H Q E h => by obtain ⟨_, _, _, _, _, rfl, _, _, _, _, _, rfl, _⟩ := h; rfl) fun cdv Ar outer s H vs Q E hr h => ?_
  obtain ⟨F, p, ws, N, S, rfl, hF, hn, hd, a, r, rfl, ha, q⟩ := h
  refine ⟨_, pss_one (ps_ret (pe_fn (ok_not_of T) (hr.mono hk) rfl (T.gD .dnot_of rfl) (T.dk .dnot_of).kp (pa_cons (pe_ma (pe_fld (pv 0) rfl) M hr (pa_cons (pv 1) pa_nil)) pa_nil))), ?_⟩
  have hF' : ∃ f, F = .turned f := by
    cases F with
    | turned f => exact ⟨f, rfl⟩
    | cmp o a b => cases o <;> cases hd
    | fixed b => cases b <;> cases hd
    | _ => cases hd
  obtain ⟨f, rfl⟩ := hF'
  obtain ⟨dx, t1, t2, t3, ks, q1, hp, hH, hf⟩ := hF.turned
  have hf0 := hf
  obtain ⟨dx', u1, u2, u3, ks', r', hp', hH', hR'⟩ := hf
  refine ⟨_, rfl, p, _, dx, _, _, rfl, hp, T.cls _, T.no _ _ (by decide), rfl, ?_⟩
  refine ⟨q1, _, dx', _, rfl, hp', ⟨_, rfl, flt_cl f⟩, rest_no hR' u1 u2 u3 .mjudged (.inl rfl), _, rfl, ?_⟩
  refine ⟨f, q1, _, N, S, rfl, hf0, by unfold Flt.ht at hn; omega, rfl, a, r, rfl, ha, fun H' e => ⟨_, rfl, ?_⟩⟩
  have fin := q H' e
  unfold Flt.eval at fin
  exact fin
theorem sc_jB : FnScope ["self", "row", "one", "other"] ["self", "row"] (defScope (Df.st .dBoth_judged)) := ⟨rfl, rfl, rfl, by decide +kernel, rfl, by decide +kernel, by decide +kernel⟩
theorem ok_jB (T : Txt P K mg A B Z) (n k : Nat) (M : MAny P w K mg base "judged" k (SPc B .mjudged n Jju) (GoodF B fltI)) : FnR P w K mg base CX0 (k + 1) (A .dBoth_judged) (SPd B .mjudged (n + 1) .dBoth_judged Jju) := by
  refine (T.d0 .dBoth_judged).fn sc_jB (fun _ _ _ _ _ _ us h => by obtain ⟨a, b, rfl⟩ := len2 h; rfl) (fun vs H Q E h => by obtain ⟨_, _, _, _, _, rfl, _, _, _, _, _, rfl, _⟩ := h; rfl) fun cdv Ar outer s H vs Q E hr h => ?_
  obtain ⟨F, p, ws, N, S, rfl, hF, hn, hd, a, r, rfl, ha, q⟩ := h
  have nd := sc_jB.nd
  refine ⟨_, pss_cons (ps_set (i := 2) nd rfl (.inl rfl) (pe_ma (pe_fld (pv 0) rfl) M hr (pa_cons (pv 1) pa_nil)))
    (pss_cons (ps_if (pt_cmpR op_isBN (pv 2) pe_bl (nomark _)) (pss_one (ps_ret pe_bl)) pss_nil)
    (pss_cons (ps_set (i := 3) nd rfl (.inl rfl) (pe_ma (pe_fld (pv 0) rfl) M hr (pa_cons (pv 1) pa_nil)))
    (pss_one (ps_ret (pe_ifExp (PW.pt (pw_or (pt_cmpR op_isBN (pv 2) pe_bl (nomark _)) (pw_or1 (pt_cmpR op_isBN (pv 3) pe_bl (nomark _))))) (pv 3) pe_non))))), ?_⟩
  have hF' : ∃ f g, F = .both f g := by
    cases F with
    | both f g => exact ⟨f, g, rfl⟩
    | cmp o a b => cases o <;> cases hd
    | fixed b => cases b <;> cases hd
    | _ => cases hd
  obtain ⟨f, g, rfl⟩ := hF'
  obtain ⟨dx, t1, t2, t3, ks, q1, q2, hp, hH, hf, hg⟩ := hF.both
  have hf0 := hf
  obtain ⟨dx', u1, u2, u3, ks', r', hp', hH', hR'⟩ := hf
  refine ⟨_, rfl, p, _, dx, _, _, rfl, hp, T.cls _, T.no _ _ (by decide), rfl, ?_⟩
  refine ⟨q1, _, dx', _, rfl, hp', ⟨_, rfl, flt_cl f⟩, rest_no hR' u1 u2 u3 .mjudged (.inl rfl), _, rfl, ?_⟩
  have hm : f.ht ≤ n ∧ g.ht ≤ n := by unfold Flt.ht at hn; omega
  refine ⟨f, q1, _, N, S, rfl, hf0, hm.1, rfl, a, r, rfl, ha, fun H1 e1 => ?_⟩
  refine ⟨_, rfl, f.eval (at' N r), false, rfl, rfl, _, rfl, ?_⟩
  have fin : ∀ H', Ex H H' → Q (oB (both3 (f.eval (at' N r)) (g.eval (at' N r)))) H' := q
  by_cases c1 : f.eval (at' N r) = some false
  · rw [decide_eq_true c1]
    refine iteT ?_
    have f1 := fin H1 e1
    unfold both3 at f1
    rw [if_pos c1] at f1
    exact f1
  · rw [decide_eq_false c1]
    refine iteF ?_
    have hg1 := hg.mono e1
    have hg0 := hg1
    obtain ⟨ex', v1, v2, v3, ks'', r'', hp'', hH'', hR''⟩ := hg1
    refine ⟨_, rfl, p, _, dx, _, _, rfl, e1 _ _ hp, T.cls _, T.no _ _ (by decide), rfl, ?_⟩
    refine ⟨q2, _, ex', _, rfl, hp'', ⟨_, rfl, flt_cl g⟩, rest_no hR'' v1 v2 v3 .mjudged (.inl rfl), _, rfl, ?_⟩
    refine ⟨g, q2, _, N, S, rfl, hg0, hm.2, rfl, a, r, rfl, ha.mono e1, fun H2 e2 => ?_⟩
    have f2 := fin H2 (e1.trans e2)
    unfold both3 at f2
    rw [if_neg c1] at f2
    refine ⟨_, rfl, f.eval (at' N r), true, rfl, rfl, _, rfl, ?_⟩
    by_cases c2 : f.eval (at' N r) = some true
    · rw [decide_eq_true c2]
      rw [if_pos (.inl c2)] at f2
      exact iteT (iteT ⟨_, rfl, f2⟩)
    · rw [decide_eq_false c2]
      refine iteF ⟨_, rfl, g.eval (at' N r), false, rfl, rfl, _, rfl, ?_⟩
      by_cases c3 : g.eval (at' N r) = some false
      · rw [decide_eq_true c3]
        rw [if_pos (.inr c3)] at f2
        exact iteT ⟨_, rfl, f2⟩
      · rw [decide_eq_false c3]
        rw [if_neg (fun z => z.elim c2 c3)] at f2
        exact iteF f2
theorem sc_jE : FnScope ["self", "row", "one", "other"] ["self", "row"] (defScope (Df.st .dEither_judged)) := ⟨rfl, rfl, rfl, by decide +kernel, rfl, by decide +kernel, by decide +kernel⟩
theorem ok_jE (T : Txt P K mg A B Z) (n k : Nat) (M : MAny P w K mg base "judged" k (SPc B .mjudged n Jju) (GoodF B fltI)) : FnR P w K mg base CX0 (k + 1) (A .dEither_judged) (SPd B .mjudged (n + 1) .dEither_judged Jju) := by
  refine (T.d0 .dEither_judged).fn sc_jE (fun _ _ _ _ _ _ us h => by obtain ⟨a, b, rfl⟩ := len2 h; rfl) (fun vs H Q E h => by obtain ⟨_, _, _, _, _, rfl, _, _, _, _, _, rfl, _⟩ := h; rfl) fun cdv Ar outer s H vs Q E hr h => ?_
  obtain ⟨F, p, ws, N, S, rfl, hF, hn, hd, a, r, rfl, ha, q⟩ := h
  have nd := sc_jE.nd
  refine ⟨_, pss_cons (ps_set (i := 2) nd rfl (.inl rfl) (pe_ma (pe_fld (pv 0) rfl) M hr (pa_cons (pv 1) pa_nil)))
    (pss_cons (ps_if (pt_cmpR op_isBN (pv 2) pe_bl (nomark _)) (pss_one (ps_ret pe_bl)) pss_nil)
    (pss_cons (ps_set (i := 3) nd rfl (.inl rfl) (pe_ma (pe_fld (pv 0) rfl) M hr (pa_cons (pv 1) pa_nil)))
    (pss_one (ps_ret (pe_ifExp (PW.pt (pw_or (pt_cmpR op_isBN (pv 2) pe_bl (nomark _)) (pw_or1 (pt_cmpR op_isBN (pv 3) pe_bl (nomark _))))) (pv 3) pe_non))))), ?_⟩
  have hF' : ∃ f g, F = .either f g := by
    cases F with
    | either f g => exact ⟨f, g, rfl⟩
    | cmp o a b => cases o <;> cases hd
    | fixed b => cases b <;> cases hd
    | _ => cases hd
  obtain ⟨f, g, rfl⟩ := hF'
  obtain ⟨dx, t1, t2, t3, ks, q1, q2, hp, hH, hf, hg⟩ := hF.either
  have hf0 := hf
  obtain ⟨dx', u1, u2, u3, ks', r', hp', hH', hR'⟩ := hf
  refine ⟨_, rfl, p, _, dx, _, _, rfl, hp, T.cls _, T.no _ _ (by decide), rfl, ?_⟩
  refine ⟨q1, _, dx', _, rfl, hp', ⟨_, rfl, flt_cl f⟩, rest_no hR' u1 u2 u3 .mjudged (.inl rfl), _, rfl, ?_⟩
  have hm : f.ht ≤ n ∧ g.ht ≤ n := by unfold Flt.ht at hn; omega
  refine ⟨f, q1, _, N, S, rfl, hf0, hm.1, rfl, a, r, rfl, ha, fun H1 e1 => ?_⟩
  refine ⟨_, rfl, f.eval (at' N r), true, rfl, rfl, _, rfl, ?_⟩
  have fin : ∀ H', Ex H H' → Q (oB (either3 (f.eval (at' N r)) (g.eval (at' N r)))) H' := q
  by_cases c1 : f.eval (at' N r) = some true
  · rw [decide_eq_true c1]
    refine iteT ?_
    have f1 := fin H1 e1
    unfold either3 at f1
    rw [if_pos c1] at f1
    exact f1
  · rw [decide_eq_false c1]
    refine iteF ?_
    have hg1 := hg.mono e1
    have hg0 := hg1
    obtain ⟨ex', v1, v2, v3, ks'', r'', hp'', hH'', hR''⟩ := hg1
    refine ⟨_, rfl, p, _, dx, _, _, rfl, e1 _ _ hp, T.cls _, T.no _ _ (by decide), rfl, ?_⟩
    refine ⟨q2, _, ex', _, rfl, hp'', ⟨_, rfl, flt_cl g⟩, rest_no hR'' v1 v2 v3 .mjudged (.inl rfl), _, rfl, ?_⟩
    refine ⟨g, q2, _, N, S, rfl, hg0, hm.2, rfl, a, r, rfl, ha.mono e1, fun H2 e2 => ?_⟩
    have f2 := fin H2 (e1.trans e2)
    unfold either3 at f2
    rw [if_neg c1] at f2
    refine ⟨_, rfl, f.eval (at' N r), false, rfl, rfl, _, rfl, ?_⟩
    by_cases c2 : f.eval (at' N r) = some false
    · rw [decide_eq_true c2]
      rw [if_pos (.inl c2)] at f2
      exact iteT (iteT ⟨_, rfl, f2⟩)
    · rw [decide_eq_false c2]
      refine iteF ⟨_, rfl, g.eval (at' N r), true, rfl, rfl, _, rfl, ?_⟩
      by_cases c3 : g.eval (at' N r) = some true
      · rw [decide_eq_true c3]
        rw [if_pos (.inr c3)] at f2
        exact iteT ⟨_, rfl, f2⟩
      · rw [decide_eq_false c3]
        rw [if_neg (fun z => z.elim c2 c3)] at f2
        exact iteF f2
/-- judged of every filter that is not higher than n -/
theorem lk_ju {cl : Cl} (g : fltI cl = true) : look cl .mjudged = some .dCompared_judged ∨ look cl .mjudged = some .dAmong_judged ∨ look cl .mjudged = some .dMissing_judged ∨ look cl .mjudged = some .dFixed_judged ∨ look cl .mjudged = some .dTurned_judged ∨ look cl .mjudged = some .dBoth_judged ∨ look cl .mjudged = some .dEither_judged := by
  cases cl <;> first | exact absurd g (by decide) | exact .inl rfl | exact .inr (.inl rfl) | exact .inr (.inr (.inl rfl)) | exact .inr (.inr (.inr (.inl rfl))) | exact .inr (.inr (.inr (.inr (.inl rfl)))) | exact .inr (.inr (.inr (.inr (.inr (.inl rfl))))) | exact .inr (.inr (.inr (.inr (.inr (.inr rfl)))))
/-- a higher filter's def is never called at height 0 -/
theorem none0 {m : Mt} {d : Df} {J : Jn} {k : Nat} {name : Str} (hd : ∀ F : Flt, F.ht = 0 → look F.cl m ≠ some d) : FnR P w K mg base CX0 k (A d) (SPd B m 0 d J) := by
  intro Ar outer s H us vs Q E hr e0 r h
  obtain ⟨F, p, ws, N, S, _, _, hn, hl, _⟩ := h
  exact absurd hl (hd F (Nat.le_zero.mp hn))
theorem judged_any (T : Txt P K mg A B Z) : ∀ n : Nat, MAny P w K mg base "judged" (n + 2) (SPc B .mjudged n Jju) (GoodF B fltI)
  | 0 => meth_all (m := .mjudged) T fun cl g => by
    rcases lk_ju g with h | h | h | h | h | h | h
    · exact ⟨_, h, ok_jC T 0⟩
    · exact ⟨_, h, (ok_jA T 0).mono (by omega)⟩
    · exact ⟨_, h, (ok_jM T 0).mono (by omega)⟩
    · exact ⟨_, h, (ok_jF T 0).mono (by omega)⟩
    · exact ⟨_, h, none0 (name := "") fun F hF => by cases F with | cmp o a b => cases o <;> (intro z; cases z) | fixed b => cases b <;> (intro z; cases z) | turned f => unfold Flt.ht at hF; omega | _ => (intro z; cases z)⟩
    · exact ⟨_, h, none0 (name := "") fun F hF => by cases F with | cmp o a b => cases o <;> (intro z; cases z) | fixed b => cases b <;> (intro z; cases z) | both f g => unfold Flt.ht at hF; omega | _ => (intro z; cases z)⟩
    · exact ⟨_, h, none0 (name := "") fun F hF => by cases F with | cmp o a b => cases o <;> (intro z; cases z) | fixed b => cases b <;> (intro z; cases z) | either f g => unfold Flt.ht at hF; omega | _ => (intro z; cases z)⟩
  | n + 1 => meth_all (m := .mjudged) T fun cl g => by
    have M := judged_any T n
    rcases lk_ju g with h | h | h | h | h | h | h
    · exact ⟨_, h, (ok_jC T _).mono (by omega)⟩
    · exact ⟨_, h, (ok_jA T _).mono (by omega)⟩
    · exact ⟨_, h, (ok_jM T _).mono (by omega)⟩
    · exact ⟨_, h, (ok_jF T _).mono (by omega)⟩
    · exact ⟨_, h, ok_jT T n (n + 2) (by omega) M⟩
    · exact ⟨_, h, ok_jB T n (n + 2) M⟩
    · exact ⟨_, h, ok_jE T n (n + 2) M⟩
end
end Hs
set_option Elab.async false
set_option linter.all false
set_option maxRecDepth 100000
set_option maxHeartbeats 4000000
/-! leaves, len. -/
namespace Hs
open PySem PySem.Spec PyProof.Rows L2
section
variable {P : Program} {w : World} {K : PySem.W.Frag} {mg : Str → Option Value} {base : Heap} {A : Df → Addr} {B Z : Cl → Addr}
def Jlv : Jn := fun N S F p ws H Q => ws = [] ∧ F.leaves ≤ 100 ∧ ∀ l xs H', Ex H H' → H' l = some (.lst xs) → xs.length = F.leaves → Q (.ref l) H'
theorem sc_lvF : FnScope ["self"] ["self"] (defScope (Df.st .dFilter_leaves)) := ⟨rfl, rfl, rfl, by decide +kernel, rfl, by decide +kernel, by decide +kernel⟩
theorem ok_lvF (T : Txt P K mg A B Z) (n : Nat) : FnR P w K mg base CX0 1 (A .dFilter_leaves) (SPd B .mleaves n .dFilter_leaves Jlv) := by
  refine (T.d0 .dFilter_leaves).fn sc_lvF (fun _ _ _ _ _ _ us h => by obtain ⟨a, rfl⟩ := len1 h; rfl) (fun vs H Q E h => by obtain ⟨_, _, _, _, _, rfl, _, _, _, rfl, _⟩ := h; rfl) fun cdv Ar outer s H vs Q E hr h => ?_
  obtain ⟨F, p, ws, N, S, rfl, hF, hn, hd, rfl, hl, q⟩ := h
  refine ⟨_, pss_one (ps_ret (pe_lst (pa_cons (pv 0) pa_nil))), ?_⟩
  refine ⟨_, rfl, by show 1 ≤ sizeLine; decide, fun l hl => q l _ _ (Ex.new hl) upd_same ?_⟩
  cases F with
  | turned f => cases hd
  | both f g => cases hd
  | either f g => cases hd
  | _ => rfl
theorem sc_lvT : FnScope ["self"] ["self"] (defScope (Df.st .dTurned_leaves)) := ⟨rfl, rfl, rfl, by decide +kernel, rfl, by decide +kernel, by decide +kernel⟩
theorem ok_lvT (T : Txt P K mg A B Z) (n k : Nat) (M : MAny P w K mg base "leaves" k (SPc B .mleaves n Jlv) (GoodF B fltI)) : FnR P w K mg base CX0 (k + 1) (A .dTurned_leaves) (SPd B .mleaves (n + 1) .dTurned_leaves Jlv) := by
  refine (T.d0 .dTurned_leaves).fn sc_lvT (fun _ _ _ _ _ _ us h => by obtain ⟨a, rfl⟩ := len1 h; rfl) (fun vs H Q E h => by obtain ⟨_, _, _, _, _, rfl, _, _, _, rfl, _⟩ := h; rfl) fun cdv Ar outer s H vs Q E hr h => ?_
  obtain ⟨F, p, ws, N, S, rfl, hF, hn, hd, rfl, hl, q⟩ := h
  refine ⟨_, pss_one (ps_ret (pe_ma0 (pe_fld (pv 0) rfl) M hr)), ?_⟩
  have hF' : ∃ f, F = .turned f := by
    cases F with
    | turned f => exact ⟨f, rfl⟩
    | cmp o a b => cases o <;> cases hd
    | fixed b => cases b <;> cases hd
    | _ => cases hd
  obtain ⟨f, rfl⟩ := hF'
  obtain ⟨dx, t1, t2, t3, ks, q1, hp, hH, hf⟩ := hF.turned
  have hf0 := hf
  obtain ⟨dx', u1, u2, u3, ks', r', hp', hH', hR'⟩ := hf
  refine ⟨_, rfl, p, _, dx, _, _, rfl, hp, T.cls _, T.no _ _ (by decide), rfl, ?_⟩
  refine ⟨q1, _, dx', _, rfl, hp', ⟨_, rfl, flt_cl f⟩, rest_no hR' u1 u2 u3 .mleaves (.inr (.inl rfl)), ?_⟩
  exact ⟨f, q1, _, N, S, rfl, hf0, by unfold Flt.ht at hn; omega, rfl, rfl, hl, q⟩
theorem sc_lvJ : FnScope ["self"] ["self"] (defScope (Df.st .dJoined_leaves)) := ⟨rfl, rfl, rfl, by decide +kernel, rfl, by decide +kernel, by decide +kernel⟩
theorem two_parts {F : Flt} {d : Df} (hd : look F.cl .mleaves = some .dJoined_leaves) : ∃ f g, F = .both f g ∨ F = .either f g := by
  cases F with
  | both f g => exact ⟨f, g, .inl rfl⟩
  | either f g => exact ⟨f, g, .inr rfl⟩
  | cmp o a b => cases o <;> cases hd
  | fixed b => cases b <;> cases hd
  | _ => cases hd
theorem FltAt.two {N : List Str} {S : List Int} {H : Hp} {F f g : Flt} {p : Addr} (h : FltAt B N S H F p) (e : F = .both f g ∨ F = .either f g) : ∃ dx t1 t2 t3 ks q q', H p = some (.ins (B F.cl) dx (hdr t1 t2 t3 ++ r2 (.ref q) (.ref q'))) ∧ Hd N S H t1 t2 t3 ks ∧ FltAt B N S H f q ∧ FltAt B N S H g q' := by
  rcases e with rfl | rfl
  · exact h.both
  · exact h.either
theorem ok_lvJ (T : Txt P K mg A B Z) (n k : Nat) (M : MAny P w K mg base "leaves" k (SPc B .mleaves n Jlv) (GoodF B fltI)) : FnR P w K mg base CX0 (k + 1) (A .dJoined_leaves) (SPd B .mleaves (n + 1) .dJoined_leaves Jlv) := by
  refine (T.d0 .dJoined_leaves).fn sc_lvJ (fun _ _ _ _ _ _ us h => by obtain ⟨a, rfl⟩ := len1 h; rfl) (fun vs H Q E h => by obtain ⟨_, _, _, _, _, rfl, _, _, _, rfl, _⟩ := h; rfl) fun cdv Ar outer s H vs Q E hr h => ?_
  obtain ⟨F, p, ws, N, S, rfl, hF, hn, hd, rfl, hl, q⟩ := h
  refine ⟨_, pss_one (ps_ret (pe_lst (StX.pa_star (pe_ma0 (pe_fld (pv 0) rfl) M hr) (StX.pa_star (pe_ma0 (pe_fld (pv 0) rfl) M hr) pa_nil)))), ?_⟩
  obtain ⟨f, g, hfg⟩ := two_parts (F := F) (d := .dJoined_leaves) hd
  obtain ⟨dx, t1, t2, t3, ks, q1, q2, hp, hH, hf, hg⟩ := hF.two hfg
  have hm : f.ht ≤ n ∧ g.ht ≤ n ∧ F.leaves = f.leaves + g.leaves := by rcases hfg with rfl | rfl <;> (unfold Flt.ht at hn; exact ⟨by omega, by omega, rfl⟩)
  have hf0 := hf
  obtain ⟨dx', u1, u2, u3, ks', r', hp', hH', hR'⟩ := hf
  refine ⟨_, rfl, p, _, dx, _, _, rfl, hp, T.cls _, T.no _ _ (by decide), rfl, ?_⟩
  refine ⟨q1, _, dx', _, rfl, hp', ⟨_, rfl, flt_cl f⟩, rest_no hR' u1 u2 u3 .mleaves (.inr (.inl rfl)), ?_⟩
  refine ⟨f, q1, _, N, S, rfl, hf0, hm.1, rfl, rfl, by omega, fun l1 xs H1 e1 h1 z1 => ⟨l1, xs, rfl, .inr (SqL.of h1), ?_⟩⟩
  have hg1 := hg.mono e1
  have hg0 := hg1
  obtain ⟨ex', v1, v2, v3, ks'', r'', hp'', hH'', hR''⟩ := hg1
  refine ⟨_, rfl, p, _, dx, _, _, rfl, e1 _ _ hp, T.cls _, T.no _ _ (by decide), rfl, ?_⟩
  refine ⟨q2, _, ex', _, rfl, hp'', ⟨_, rfl, flt_cl g⟩, rest_no hR'' v1 v2 v3 .mleaves (.inr (.inl rfl)), ?_⟩
  refine ⟨g, q2, _, N, S, rfl, hg0, hm.2.1, rfl, rfl, by omega, fun l2 ys H2 e2 h2 z2 => ⟨l2, ys, rfl, .inr (SqL.of h2), ?_⟩⟩
  have hlen : (xs ++ (ys ++ [])).length = F.leaves := by rw [List.append_nil, List.length_append, z1, z2, hm.2.2]
  refine ⟨by rw [hlen, sizeLine_eq]; omega, fun l hl => q l _ _ ((e1.trans e2).trans (Ex.new hl)) upd_same hlen⟩
theorem lk_lv {cl : Cl} (g : fltI cl = true) : look cl .mleaves = some .dFilter_leaves ∨ look cl .mleaves = some .dTurned_leaves ∨ look cl .mleaves = some .dJoined_leaves := by
  cases cl <;> first | exact absurd g (by decide) | exact .inl rfl | exact .inr (.inl rfl) | exact .inr (.inr rfl)
theorem leaves_any (T : Txt P K mg A B Z) : ∀ n : Nat, MAny P w K mg base "leaves" (n + 1) (SPc B .mleaves n Jlv) (GoodF B fltI)
  | 0 => meth_all (m := .mleaves) T fun cl g => by
    rcases lk_lv g with h | h | h
    · exact ⟨_, h, ok_lvF T 0⟩
    · exact ⟨_, h, none0 (name := "") fun F hF => by cases F with | cmp o a b => cases o <;> (intro z; cases z) | fixed b => cases b <;> (intro z; cases z) | turned f => unfold Flt.ht at hF; omega | _ => (intro z; cases z)⟩
    · exact ⟨_, h, none0 (name := "") fun F hF => by cases F with | cmp o a b => cases o <;> (intro z; cases z) | fixed b => cases b <;> (intro z; cases z) | both f g => unfold Flt.ht at hF; omega | either f g => unfold Flt.ht at hF; omega | _ => (intro z; cases z)⟩
  | n + 1 => meth_all (m := .mleaves) T fun cl g => by
    have M := leaves_any T n
    rcases lk_lv g with h | h | h
    · exact ⟨_, h, (ok_lvF T _).mono (by omega)⟩
    · exact ⟨_, h, ok_lvT T n (n + 1) M⟩
    · exact ⟨_, h, ok_lvJ T n (n + 1) M⟩
/-! ### len -/
def Jln : Jn := fun N S F p ws H Q => ws = [] ∧ F.leaves ≤ 100 ∧ ∀ H', Ex H H' → Q (.int ((F.leaves : Nat) : Int)) H'
theorem sc_ln : FnScope ["self"] ["self"] (defScope (Df.st .dFilter_len)) := ⟨rfl, rfl, rfl, by decide +kernel, rfl, by decide +kernel, by decide +kernel⟩
theorem ok_ln (T : Txt P K mg A B Z) (n : Nat) : FnR P w K mg base CX0 (n + 2) (A .dFilter_len) (SPd B .mlen n .dFilter_len Jln) := by
  refine (T.d0 .dFilter_len).fn sc_ln (fun _ _ _ _ _ _ us h => by obtain ⟨a, rfl⟩ := len1 h; rfl) (fun vs H Q E h => by obtain ⟨_, _, _, _, _, rfl, _, _, _, rfl, _⟩ := h; rfl) fun cdv Ar outer s H vs Q E hr h => ?_
  obtain ⟨F, p, ws, N, S, rfl, hF, hn, hd, rfl, hl, q⟩ := h
  refine ⟨_, pss_one (ps_ret (pe_callB call_len_seq rfl (T.blt _ (by decide)) PySem.boot_len (pa_cons (pe_ma0 (pv 0) (leaves_any T n) hr) pa_nil))), ?_⟩
  have hF0 := hF
  obtain ⟨dx, t1, t2, t3, ks, r, hp, hH, hR⟩ := hF
  refine ⟨_, rfl, p, _, dx, _, rfl, hp, ⟨_, rfl, flt_cl F⟩, rest_no hR t1 t2 t3 .mleaves (.inr (.inl rfl)), ?_⟩
  refine ⟨F, p, _, N, S, rfl, hF0, hn, rfl, rfl, hl, fun l xs H1 e1 h1 z1 => ?_⟩
  refine ⟨l, xs, rfl, .inl (SqL.of h1), ?_⟩
  rw [z1]
  exact q H1 e1
theorem len_any (T : Txt P K mg A B Z) (n : Nat) : MAny P w K mg base "__len__" (n + 2) (SPc B .mlen n Jln) (GoodF B fltI) := meth_all (m := .mlen) T fun cl g => ⟨.dFilter_len, by
  cases cl <;> first | exact absurd g (by decide) | rfl, ok_ln T n⟩
end
end Hs
set_option Elab.async false
set_option linter.all false
set_option maxRecDepth 100000
set_option maxHeartbeats 4000000
/-! The inits that say super().__init__: the comparisons. -/
namespace Hs
open PySem PySem.Spec PyProof.Rows L2 NdefX
section
variable {P : Program} {w : World} {K : PySem.W.Frag} {mg : Str → Option Value} {base : Heap} {A : Df → Addr} {B Z : Cl → Addr}
theorem Txt.d1 (T : Txt P K mg A B Z) (d : Df) {D : Cl} (h : d.sup = some D) : DefK K d.nm d.qual d.st [("__class__", Z D)] (A d) := by
  have := T.dk d
  unfold clo at this
  rw [h] at this
  exact this
theorem Txt.cellOk (T : Txt P K mg A B Z) (d : Df) {D : Cl} (h : d.sup = some D) : ∃ o v, K.lookup (Z D) = some o ∧ o.data = .cell v := by
  obtain ⟨oc, od, osl, e⟩ := T.cell D ⟨d, h⟩
  exact ⟨_, _, e, rfl⟩
theorem Txt.supM (T : Txt P K mg A B Z) (d : Df) {D : Cl} (h : d.sup = some D) {c0 : Addr} (hf : ∃ (oc : Value) (od : Option Addr) (fd : FuncData) (osl : Array (Option Value)), K.lookup (A d) = some ⟨oc, od, .func fd, osl⟩ ∧ fd.params = defArgs d.st ∧ fd.code = .ref c0)
    (hs : ∃ ar : Arg, ((defArgs d.st).posonlyargs ++ (defArgs d.st).args).head? = some ar ∧ ar.arg = ("self" : Str)) : SupM K P mg (A d) c0 (Z D) (B D) := by
  obtain ⟨oc, od, fd, osl, e, e2, e3⟩ := hf
  obtain ⟨oc', od', fd', osl', c', oc'', od'', vs, osl'', file, tf, f1, f2, f3, f4, f5⟩ := T.cod d
  rw [e] at f1
  have : fd = fd' := by
    have := Option.some.inj f1
    injection this with _ _ h3 _
    injection h3
  subst this
  rw [e3] at f2
  cases f2
  obtain ⟨ar, h1, h2⟩ := hs
  exact ⟨⟨oc, od, fd, osl, ar, e, by rw [e2]; exact h1, h2⟩, ⟨oc'', od'', vs, osl'', file, tf, f3, f4, f5⟩, T.cell D ⟨d, h⟩, T.cin D, T.blt _ (by decide), T.supTop⟩
theorem Txt.supC (T : Txt P K mg A B Z) {C D : Cl} {d : Df} (h : supOf C D = some d) : SupC K (B C) (B D) "__init__" (A d) :=
  ⟨(T.sup C D d h).1, (T.sup C D d h).2, T.ty d, T.anyN, T.fi d⟩
def sidesS : Side → Side → List Str
  | .col a, .col b => [a, b]
  | .col a, .num _ => [a]
  | .num _, .col b => [b]
  | .num _, .num _ => []
def sidesI : Side → Side → List Int
  | .num a, .num b => [a, b]
  | .num a, .col _ => [a]
  | .col _, .num b => [b]
  | .col _, .col _ => []
def fS : V → Option V
  | .str x => some (.str x)
  | _ => none
def fI : V → Option V
  | .int x => some (.int x)
  | _ => none
theorem sidesS_eq (a b : Side) : [sv a, sv b].filterMap fS = (sidesS a b).map V.str := by cases a <;> cases b <;> rfl
theorem sidesI_eq (a b : Side) : [sv a, sv b].filterMap fI = (sidesI a b).map V.int := by cases a <;> cases b <;> rfl
theorem sides_mem {N : List Str} {S : List Int} {a b : Side} (ha : SideOk N S a) (hb : SideOk N S b) : (∀ c, c ∈ sidesS a b → c ∈ N) ∧ ∀ i, i ∈ sidesI a b → i ∈ S := by
  cases a <;> cases b <;> simp only [sidesS, sidesI, List.mem_cons, List.not_mem_nil, or_false] <;> (constructor <;> (intro z hz; first | exact False.elim hz | (rcases hz with rfl | rfl <;> assumption) | (subst hz; assumption)))
def spCInit (B : Cl → Addr) : Sp := fun vs H Q _ => ∃ (p dx : Addr) (o : Cop) (a b : Side) (N : List Str) (S : List Int), vs = [.ref p, sv a, sv b] ∧ H p = some (.ins (B (opC o)) dx []) ∧ N ∈ Ns ∧ SideOk N S a ∧ SideOk N S b ∧ ((∃ c, a = .col c) ∨ ∃ c, b = .col c) ∧
  ∀ H', ExB p H H' → FltAt B N S H' (.cmp o a b) p → Q .non H'
theorem sc_Ci : NScope ["self", "one", "other", "__class__", "sides", "names", "constants", "side"] ["self", "one", "other"] ["__class__"] (defScope (Df.st .dCompared_init)) := nscope_by (by decide +kernel)
/-- is_name or is_integer says yes to a side -/
theorem side_name {N : List Str} {S : List Int} (hN : N ∈ Ns) {a : Side} (h : SideOk N S a) {H : Hp} {R F : Hp → Prop} (q : ∀ H', Ex H H' → F H') :
    spIsName [sv a] H (fun v H1 => ∃ k, v = .bl k ∧ if (!k) = true then (∃ v, some (some (sv a)) = some (some v) ∧ spIsInt [v] H1 (fun v H2 => ∃ k, v = .bl k ∧ if (!k) = true then R H2 else F H2) E0) else F H1) E0 := by
  cases a with
  | col c => exact ⟨_, rfl, .inl ⟨c, rfl, Ns_allN hN h, fun H' e => ⟨true, rfl, iteF (q H' e)⟩⟩⟩
  | num i => exact ⟨_, rfl, .inr ⟨i, rfl, false, rfl, iteT ⟨_, rfl, .int i, rfl, .inl ⟨i, rfl, true, rfl, iteF (q H (Ex.refl H))⟩⟩⟩⟩
theorem two_le : 2 ≤ sizeLine := by rw [sizeLine_eq]; decide
theorem side_mem {a b : Side} {x : V} (h : x ∈ [sv a, sv b]) : (∃ c, x = .str c) ∨ ∃ i, x = .int i := by
  rcases List.mem_cons.mp h with rfl | h
  · cases a
    · exact .inl ⟨_, rfl⟩
    · exact .inr ⟨_, rfl⟩
  · rw [List.mem_singleton] at h
    subst h
    cases b
    · exact .inl ⟨_, rfl⟩
    · exact .inr ⟨_, rfl⟩
theorem dp_strs {H : Hp} : ∀ ns : List Str, DpAll K H (ns.map V.str) (ns.map PyData.str)
  | [] => .nil
  | n :: ns => .cons (.str n) (dp_strs ns)
theorem cl_strs : ∀ ns : List Str, (∀ n, n ∈ ns → n ∈ allN) → PyData.canLayAll0 (ns.map PyData.str) = true
  | [], _ => rfl
  | n :: ns, h => by
    have h1 : ∀ n ∈ allN, PyData.strOk n = true := by decide +kernel
    simp only [List.map_cons, PyData.canLayAll0, PyData.canLay0, h1 n (h n (List.mem_cons_self ..)), cl_strs ns fun x hx => h x (List.mem_cons_of_mem _ hx), Bool.and_self, Bool.and_true]
theorem dp0_strs : ∀ ns : List Str, PyData.depthAll (ns.map PyData.str) = 0
  | [] => rfl
  | n :: ns => by simp only [List.map_cons, PyData.depthAll, PyData.depth, dp0_strs ns, Nat.max_self]
theorem sh_strs (ns : List Str) (h : ∀ n, n ∈ ns → n ∈ allN) : SeqAt.shaped (.list (ns.map PyData.str)) = true := by
  simp [SeqAt.shaped, PyData.canLay0, PyData.depth, cl_strs ns h, dp0_strs]
theorem sides_len (a b : Side) : (sidesS a b).length ≤ 2 ∧ (sidesI a b).length ≤ 2 := by cases a <;> cases b <;> simp [sidesS, sidesI]
theorem sides_ne {a b : Side} (h : (∃ c, a = .col c) ∨ ∃ c, b = .col c) : ∃ c, c ∈ sidesS a b := by
  cases a <;> cases b <;> first | exact ⟨_, List.mem_cons_self ..⟩ | (rcases h with ⟨c, h⟩ | ⟨c, h⟩ <;> cases h)
theorem eqv_ne_nil {ys : List Str} (h : ys ≠ []) : PyData.eqv (.list (ys.map PyData.str)) (.list []) = false := by
  cases ys with
  | nil => exact absurd rfl h
  | cons y ys => simp only [List.map_cons, PyData.eqv, PyData.eqvAll]
theorem sup_C (o : Cop) : supOf (opC o) .cCompared = some .dFilter_init := by cases o <;> rfl
theorem Hd.exb {N : List Str} {S : List Int} {H H' : Hp} {t1 t2 t3 p : Addr} {ks : List Int} (h : Hd N S H t1 t2 t3 ks) (e : ExB p H H') (hp : ∃ C dx fs, H p = some (.ins C dx fs)) : Hd N S H' t1 t2 t3 ks := by
  obtain ⟨C, dx, fs, hp'⟩ := hp
  have ne : ∀ {t : Addr} {xs}, H t = some (.tup xs) → t ≠ p := fun h z => by rw [z, hp'] at h; cases h
  obtain ⟨cs, c1, c2⟩ := h.cs
  obtain ⟨ls, l1, l2⟩ := h.ls
  exact ⟨⟨cs, e _ _ (ne c1) c1, c2⟩, e _ _ (ne h.kt) h.kt, h.kn, h.ks, ⟨ls, e _ _ (ne l1) l1, l2.exb e ⟨C, dx, fs, hp'⟩⟩⟩
theorem ok_Ci (T : Txt P K mg A B Z) : FnR P w K mg base CX0 3 (A .dCompared_init) (spCInit B) := by
  have hsup : Df.dCompared_init.sup = some .cCompared := rfl
  refine (T.d1 .dCompared_init hsup).fnSup (ps := ["self", "one", "other"]) sc_Ci (T.cellOk _ hsup) (fun _ _ _ _ _ _ us h => by obtain ⟨a, b, c, rfl⟩ := len3 h; rfl) (fun vs H Q E h => by obtain ⟨_, _, _, _, _, _, _, rfl, _⟩ := h; rfl) fun c0 Ar outer s H vs Q E hf hr h => ?_
  obtain ⟨p, dx, o, a, b, N, S, rfl, hp, hN, ha, hb, hab, q⟩ := h
  have nd := sc_Ci.nd
  have M := T.supM .dCompared_init hsup hf ⟨_, rfl, by decide +kernel⟩
  have hr1 : Room 1 _ := hr.mono (j := 1) (by decide)
  refine ⟨_, (psa_cons (ps_if (PW.pt (pw_and (pt_not (pt_val (pe_fn (ok_is_name T) hr1 rfl (T.gD .dis_name rfl) (T.dk .dis_name).kp (pa_cons (pv 1) pa_nil)))) (pw_and1 (pt_not (pt_val (pe_fn (ok_is_integer T) hr1 rfl (T.gD .dis_integer rfl) (T.dk .dis_integer).kp (pa_cons (pv 1) pa_nil))))))) pss_never pss_nil)
    <| psa_cons (ps_if (PW.pt (pw_and (pt_not (pt_val (pe_fn (ok_is_name T) hr1 rfl (T.gD .dis_name rfl) (T.dk .dis_name).kp (pa_cons (pv 2) pa_nil)))) (pw_and1 (pt_not (pt_val (pe_fn (ok_is_integer T) hr1 rfl (T.gD .dis_integer rfl) (T.dk .dis_integer).kp (pa_cons (pv 2) pa_nil))))))) pss_never pss_nil)
    <| psa_cons (ps_set (i := 4) nd rfl (.inl rfl) (pe_tup (pa_cons (pv 1) (pa_cons (pv 2) pa_nil))))
    <| psa_cons (ps_set (i := 5) nd rfl (.inl rfl) (pe_fn (ok_ascending_names T) hr1 rfl (T.gD .dascending_names rfl) (T.dk .dascending_names).kp (pa_cons
        (pe_lc (own := [("side", 7)]) (g := gName 7) (tt := tB (tIsT K "str" (tVar 7))) rfl nd (pi_tup (pv 4)) (blkOk_by (N := ["self", "one", "other", "__class__", "sides", "names", "constants", "side"]) (sc := defScope (Df.st .dCompared_init)) (by decide +kernel)) (fun _ _ _ _ _ => pg_name (i := 7) nd rfl (Or.inl rfl))
          (fun _ _ _ _ _ => pts_one (pt_val (pe_isT (n := "str") (pv 7) rfl (T.blt _ (by decide)) rfl (T.blt _ (by decide)) (by decide +kernel)))) (fun _ _ _ _ _ => pv 7)) pa_nil)))
    <| psa_cons (ps_if (pt_cmpR (op_eqD hr.units) (pv 5) (pe_lst pa_nil) (nomark _)) pss_never pss_nil)
    <| psa_cons (ps_setLc (i := 6) (own := [("side", 7)]) (g := gName 7) rfl nd rfl rfl (sw_true rfl rfl rfl (by decide +kernel)) (pi_tup (pv 4)) (blkOk_by (N := ["self", "one", "other", "__class__", "sides", "names", "constants", "side"]) (sc := defScope (Df.st .dCompared_init)) (by decide +kernel)) (fun _ _ _ _ _ => pg_name (i := 7) nd rfl (Or.inl rfl))
          (fun _ _ _ _ _ => pts_one (pt_val (pe_fn (ok_is_integer T) (by exact hr1) rfl (T.gD .dis_integer rfl) (T.dk .dis_integer).kp (pa_cons (pv 7) pa_nil)))) (fun _ _ _ _ _ => pv 7))
    <| psa_super (i := 0) M rfl rfl rfl hr rfl (by decide) rfl rfl rfl (pa_cons (pv 5) (pa_cons (pv 6) (pa_cons (pe_ifExp (pt_cmpR op_gt (pe_callB call_len_seq rfl (T.blt _ (by decide)) PySem.boot_len (pa_cons (pv 5) pa_nil)) pe_int (nomark _))
        (pe_lst (pa_cons (pe_callTy call_tuple_of rfl (T.blt _ (by decide)) (by decide +kernel) (pa_cons (pv 5) pa_nil)) pa_nil)) (pe_lst pa_nil)) pa_nil)))
    (psa_of (pss_cons (ps_fld (pv 0) (pv 1) rfl) (pss_one (ps_fld (pv 0) (pv 2) rfl))))), ?_⟩
  refine ⟨_, rfl, side_name hN ha fun H1 e1 => ?_⟩
  refine ⟨_, rfl, side_name hN hb fun H2 e2 => ?_⟩
  have E2 : Ex H H2 := e1.trans e2
  refine ⟨_, rfl, _, rfl, two_le, fun t ht => ?_⟩
  have E3 : Ex H (upd H2 t (.tup [sv a, sv b])) := E2.trans (Ex.new ht)
  have hpn : ∀ {x : Addr} {H' : Hp}, Ex H H' → H' x = none → p ≠ x := fun e h z => by rw [← z, e _ _ hp] at h; cases h
  generalize hH3 : upd H2 t (.tup [sv a, sv b]) = H3 at E3
  have h3t : SqT K H3 t [sv a, sv b] := by rw [← hH3]; exact SqT.of upd_same
  refine ⟨_, rfl, t, rfl, ⟨_, h3t⟩, fun D hD => lc_at walk_tup (fun H' e => ex_t e h3t) hD (by show 2 ≤ 1000; decide) fS (fun x H5 hx e5 KK KN k1 k2 => ?_) fun H4 e4 h4 => ?_⟩
  · rcases side_mem hx with ⟨c, rfl⟩ | ⟨i, rfl⟩
    · exact ⟨rfl, _, rfl, _, true, .base (.str _), k_str_str, true, rfl, _, rfl, k1 _ _ (Ex.refl _) rfl⟩
    · exact ⟨rfl, _, rfl, _, false, .base (.int _), k_int_str, false, rfl, k2 _ (Ex.refl _) rfl⟩
  rw [sidesS_eq] at h4
  have E4 := E3.trans e4
  obtain ⟨hcN, hiS⟩ := sides_mem ha hb
  obtain ⟨sl, il⟩ := sides_len a b
  refine ⟨D, sidesS a b, rfl, .inl (SqL.of h4), by omega, fun p5 ys H5 e5 h5 nd5 mem5 srt5 => ?_⟩
  have E5 := E4.trans e5
  have hyN : ∀ y, y ∈ ys → y ∈ N := fun y hy => hcN y ((mem5 y).mp hy)
  have hyl : ys.length ≤ 2 := Nat.le_trans (sub_len nd5 hyN) (by rcases Ns_len hN with e | e <;> omega)
  have hyne : ys ≠ [] := fun z => by
    obtain ⟨c, hc⟩ := sides_ne hab
    have := (mem5 c).mpr hc
    rw [z] at this
    cases this
  refine ⟨_, rfl, Nat.zero_le _, fun p6 hp6 => ?_⟩
  have E6 := E5.trans (Ex.new hp6 (o := .lst []))
  have h56 : SqL K (upd H5 p6 (.lst [])) p5 (ys.map V.str) := SqL.of ((Ex.new hp6) _ _ h5)
  refine ⟨_, _, .lst h56 (dp_strs ys), .lst (SqL.of upd_same) .nil, sh_strs ys fun y hy => Ns_allN hN (hyN y hy), rfl, false, congrArg V.bl (eqv_ne_nil hyne), iteF ?_⟩
  generalize hH6 : upd H5 p6 (.lst []) = H6 at E6 h56
  have h6t : SqT K H6 t [sv a, sv b] := by rw [← hH6]; exact ex_t (e4.trans (e5.trans (Ex.new hp6))) h3t
  refine ⟨_, rfl, t, rfl, ⟨_, h6t⟩, fun D7 hD7 => lc_at walk_tup (fun H' e => ex_t e h6t) hD7 (by show 2 ≤ 1000; decide) fI (fun x H5 hx e5 KK KN k1 k2 => ?_) fun H7 e7 h7 => ?_⟩
  · rcases side_mem hx with ⟨c, rfl⟩ | ⟨i, rfl⟩
    · exact ⟨rfl, _, rfl, _, rfl, .inr ⟨c, rfl, false, rfl, k2 _ (Ex.refl _) rfl⟩⟩
    · exact ⟨rfl, _, rfl, _, rfl, .inl ⟨i, rfl, true, rfl, _, rfl, k1 _ _ (Ex.refl _) rfl⟩⟩
  rw [sidesI_eq] at h7
  have E7 := E6.trans e7
  have h75 : SqL K H7 p5 (ys.map V.str) := ex_l e7 h56
  refine ⟨p, B (opC o), dx, [], A .dFilter_init, spFInit K B, rfl, E7 _ _ hp, T.supC (sup_C o), ok_Filter_init T, fun q1 hq1 => ?_⟩
  have E8 := E7.trans (Ex.new hq1 (o := .met (A .dFilter_init) p))
  have h85 : SqL K (upd H7 q1 (.met (A .dFilter_init) p)) p5 (ys.map V.str) := ex_l (Ex.new hq1) h75
  have h8D : SqL K (upd H7 q1 (.met (A .dFilter_init) p)) D7 ((sidesI a b).map V.int) := SqL.of ((Ex.new hq1) _ _ h7)
  generalize hH8 : upd H7 q1 (.met (A .dFilter_init) p) = H8 at E8 h85 h8D
  have hfin : ∀ (l : Addr) (ls : List V) (H9 : Hp), Ex H8 H9 → SqL K H9 l ls → LinksOk N H9 ls → H9 q1 = some (.met (A .dFilter_init) p) ∧ spFInit K B [.ref p, .ref p5, .ref D7, .ref l] H9 (fun _ H3 => sFld K (tVar 0) (tVar 1) "one" { nx := fun s1 h1 => sFld K (tVar 0) (tVar 2) "other" { nx := fun x H' => Q V.non H', rt := Q } s1 h1, rt := Q }
      ((((startF ["self", "one", "other", "__class__", "sides", "names", "constants", "side"] [V.ref p, sv a, sv b] [none]).set 4 (some (V.ref t))).set 5 (some (.ref p5))).set 6 (some (.ref D7))) H3) E0 := by
    intro l ls H9 e9 hl hL
    have E9 := E8.trans e9
    refine ⟨e9 _ _ (by rw [← hH8]; exact upd_same), p, p5, D7, l, dx, opC o, N, ys, S, sidesI a b, ls, rfl, E9 _ _ hp, .inl (ex_l e9 h85), by omega, hyN, .inl (ex_l e9 h8D), by omega, hiS, .inl hl, hL, fun H' t1 t2 t3 ks' eb g hd mem => ?_⟩
    have hcl : Cls K (B (opC o)) := T.cls _
    refine ⟨_, rfl, _, rfl, p, B (opC o), dx, _, rfl, g, hcl, T.no _ _ (by decide), (by show 3 < 1000; decide), ?_⟩
    refine ⟨_, rfl, _, rfl, p, B (opC o), dx, _, rfl, upd_same, hcl, T.no _ _ (by decide), (by show 4 < 1000; decide), ?_⟩
    refine q _ ((ex_b E9).trans eb).put.put ⟨dx, t1, t2, t3, ks', r2 (sv a) (sv b), by rw [upd_same]; rfl, hd.exb (ExB.refl p H').put.put ⟨_, _, _, g⟩, rfl, ha, hb, hab⟩
  refine ⟨_, rfl, _, rfl, ?_⟩
  by_cases h1 : ys.length = 2
  · refine ⟨_, rfl, p5, _, rfl, .inl h85, ?_⟩
    refine ⟨_, 1, rfl, rfl, true, congrArg V.bl (decide_eq_true (by rw [List.length_map]; omega)), iteT ?_⟩
    refine ⟨_, rfl, p5, _, rfl, .inl ⟨h85, fun q2 hq2 => ?_⟩⟩
    refine ⟨Nat.le_trans (by show 1 ≤ 2; decide) two_le, fun q3 hq3 => ?_⟩
    have en : ys = N := asc_full hN nd5 hyN srt5 (by have := sub_len nd5 hyN; rcases Ns_len hN with e | e <;> omega)
    exact hfin q3 [.ref q2] _ ((Ex.new hq2).trans (Ex.new hq3)) (SqL.of upd_same) (.inr ⟨q2, rfl, by rw [← en]; exact (Ex.new hq3) _ _ upd_same, by rw [← en]; exact h1⟩)
  · refine ⟨_, rfl, p5, _, rfl, .inl h85, ?_⟩
    refine ⟨_, 1, rfl, rfl, false, congrArg V.bl (decide_eq_false (by rw [List.length_map]; omega)), iteF ?_⟩
    refine ⟨Nat.zero_le _, fun q3 hq3 => ?_⟩
    exact hfin q3 [] _ (Ex.new hq3) (SqL.of upd_same) (.inl rfl)
end
end Hs
set_option Elab.async false
set_option linter.all false
set_option maxRecDepth 100000
set_option maxHeartbeats 4000000
/-! The inits of the comparisons of one column, of the fixed ones, of the opposite. -/
namespace Hs
open PySem PySem.Spec PyProof.Rows L2 NdefX
section
variable {P : Program} {w : World} {K : PySem.W.Frag} {mg : Str → Option Value} {base : Heap} {A : Df → Addr} {B Z : Cl → Addr}
theorem one_le : 1 ≤ sizeLine := by rw [sizeLine_eq]; decide
/-- is_name says yes to a name -/
theorem name_yes {N : List Str} (hN : N ∈ Ns) {c : Str} (h : c ∈ N) {H : Hp} {R F : Hp → Prop} (q : ∀ H', Ex H H' → F H') :
    spIsName [.str c] H (fun v H1 => ∃ k, v = .bl k ∧ if (!k) = true then R H1 else F H1) E0 := ⟨_, rfl, .inl ⟨c, rfl, Ns_allN hN h, fun H' e => ⟨true, rfl, iteF (q H' e)⟩⟩⟩
def spPInit (K : PySem.W.Frag) (B : Cl → Addr) : Sp := fun vs H Q _ => ∃ (p k dx : Addr) (c : Str) (cl : Cl) (N : List Str) (S ks : List Int), vs = [.ref p, .str c, .ref k] ∧ H p = some (.ins (B cl) dx []) ∧ supOf cl .cPicked = some .dFilter_init ∧ N ∈ Ns ∧ c ∈ N ∧ SqA K H k (ks.map V.int) ∧ ks.length < 64 ∧ (∀ x, x ∈ ks → x ∈ S) ∧
  ∀ H' t1 t2 t3 ks', ExB p H H' → H' p = some (.ins (B cl) dx (hdr t1 t2 t3 ++ rC c)) → Hd N S H' t1 t2 t3 ks' → (∀ x, x ∈ ks' ↔ x ∈ ks) → Q .non H'
theorem sc_Pi : NScope ["self", "column", "constants", "__class__"] ["self", "column", "constants"] ["__class__"] (defScope (Df.st .dPicked_init)) := nscope_by (by decide +kernel)
theorem ok_Pi (T : Txt P K mg A B Z) : FnR P w K mg base CX0 3 (A .dPicked_init) (spPInit K B) := by
  have hsup : Df.dPicked_init.sup = some .cPicked := rfl
  refine (T.d1 .dPicked_init hsup).fnSup (ps := ["self", "column", "constants"]) sc_Pi (T.cellOk _ hsup) (fun _ _ _ _ _ _ us h => by obtain ⟨a, b, c, rfl⟩ := len3 h; rfl) (fun vs H Q E h => by obtain ⟨_, _, _, _, _, _, _, _, rfl, _⟩ := h; rfl) fun c0 Ar outer s H vs Q E hf hr h => ?_
  obtain ⟨p, k, dx, c, cl, N, S, ks, rfl, hp, hs, hN, hc, hk, kl, hkS, q⟩ := h
  have nd := sc_Pi.nd
  have M := T.supM .dPicked_init hsup hf ⟨_, rfl, by decide +kernel⟩
  have hr1 : Room 1 _ := hr.mono (j := 1) (by decide)
  refine ⟨_, (psa_cons (ps_if (pt_not (pt_val (pe_fn (ok_is_name T) hr1 rfl (T.gD .dis_name rfl) (T.dk .dis_name).kp (pa_cons (pv 1) pa_nil)))) pss_never pss_nil)
    <| psa_super (i := 0) M rfl rfl rfl hr rfl (by decide) rfl rfl rfl (pa_cons (pe_lst (pa_cons (pv 1) pa_nil)) (pa_cons (pv 2) (pa_cons (pe_lst pa_nil) pa_nil)))
    (psa_of (pss_one (ps_fld (pv 0) (pv 1) rfl)))), ?_⟩
  refine ⟨_, rfl, name_yes hN hc fun H1 e1 => ?_⟩
  refine ⟨p, B cl, dx, [], A .dFilter_init, spFInit K B, rfl, e1 _ _ hp, T.supC hs, ok_Filter_init T, fun q1 hq1 => ?_⟩
  refine ⟨_, rfl, one_le, fun l1 hl1 => ⟨_, rfl, Nat.zero_le _, fun l2 hl2 => ?_⟩⟩
  have e2 := (Ex.new (o := .lst [.str c]) hl1).trans (Ex.new (o := .lst []) hl2)
  have e3 := (Ex.new hq1 (o := .met (A .dFilter_init) p)).trans e2
  have E3 := e1.trans e3
  refine ⟨e2 _ _ upd_same, p, l1, k, l2, dx, cl, N, [c], S, ks, [], rfl, E3 _ _ hp, .inl (SqL.of ((Ex.new hl2) _ _ upd_same)), (by show 1 < 64; decide), fun x hx => by rw [List.mem_singleton.mp hx]; exact hc, hk.imp (ex_l E3) (ex_t E3), kl, hkS, .inl (SqL.of upd_same), .inl rfl, fun H' t1 t2 t3 ks' eb g hd mem => ?_⟩
  refine ⟨_, rfl, _, rfl, p, B cl, dx, _, rfl, g, T.cls _, T.no _ _ (by decide), (by show 3 < 1000; decide), ?_⟩
  exact q _ t1 t2 t3 ks' ((ex_b E3).trans eb).put (by rw [upd_same]; rfl) (hd.exb (ExB.refl p H').put ⟨_, _, _, g⟩) mem
/-! ### Missing -/
def spMInit (B : Cl → Addr) : Sp := fun vs H Q _ => ∃ (p dx : Addr) (c : Str) (N : List Str) (S : List Int), vs = [.ref p, .str c] ∧ H p = some (.ins (B .cMissing) dx []) ∧ N ∈ Ns ∧ c ∈ N ∧ ∀ H', ExB p H H' → FltAt B N S H' (.missing c) p → Q .non H'
theorem sc_Mi : NScope ["self", "column", "__class__"] ["self", "column"] ["__class__"] (defScope (Df.st .dMissing_init)) := nscope_by (by decide +kernel)
theorem ok_Mi (T : Txt P K mg A B Z) : FnR P w K mg base CX0 4 (A .dMissing_init) (spMInit B) := by
  have hsup : Df.dMissing_init.sup = some .cMissing := rfl
  refine (T.d1 .dMissing_init hsup).fnSup (ps := ["self", "column"]) sc_Mi (T.cellOk _ hsup) (fun _ _ _ _ _ _ us h => by obtain ⟨a, b, rfl⟩ := len2 h; rfl) (fun vs H Q E h => by obtain ⟨_, _, _, _, _, rfl, _⟩ := h; rfl) fun c0 Ar outer s H vs Q E hf hr h => ?_
  obtain ⟨p, dx, c, N, S, rfl, hp, hN, hc, q⟩ := h
  have M := T.supM .dMissing_init hsup hf ⟨_, rfl, by decide +kernel⟩
  refine ⟨_, (psa_super (i := 0) M rfl rfl rfl hr rfl (by decide) rfl rfl rfl (pa_cons (pv 1) (pa_cons (pe_lst pa_nil) pa_nil)) (psa_of pss_nil)), ?_⟩
  refine ⟨p, B .cMissing, dx, [], A .dPicked_init, spPInit K B, rfl, hp, T.supC rfl, ok_Pi T, fun q1 hq1 => ?_⟩
  refine ⟨_, rfl, Nat.zero_le _, fun l2 hl2 => ?_⟩
  have e3 := (Ex.new hq1 (o := .met (A .dPicked_init) p)).trans (Ex.new hl2 (o := .lst []))
  refine ⟨(Ex.new hl2) _ _ upd_same, p, l2, dx, c, .cMissing, N, S, [], rfl, e3 _ _ hp, rfl, hN, hc, .inl (SqL.of upd_same), by decide, (fun x hx => nomatch hx), fun H' t1 t2 t3 ks' eb g hd mem => ?_⟩
  exact q _ ((ex_b e3).trans eb) ⟨dx, t1, t2, t3, ks', rC c, g, hd, rfl, hc⟩
/-! ### Always, Never -/
def spXInit (B : Cl → Addr) : Sp := fun vs H Q _ => ∃ (p dx : Addr) (b : Bool), vs = [.ref p] ∧ H p = some (.ins (B (Flt.fixed b).cl) dx []) ∧ ∀ H', ExB p H H' → (∀ N S, FltAt B N S H' (.fixed b) p) → Q .non H'
theorem sc_Xi : NScope ["self", "__class__"] ["self"] ["__class__"] (defScope (Df.st .dFixed_init)) := nscope_by (by decide +kernel)
theorem sup_X (b : Bool) : supOf (Flt.fixed b).cl .cFixed = some .dFilter_init := by cases b <;> rfl
theorem ok_Xi (T : Txt P K mg A B Z) : FnR P w K mg base CX0 3 (A .dFixed_init) (spXInit B) := by
  have hsup : Df.dFixed_init.sup = some .cFixed := rfl
  refine (T.d1 .dFixed_init hsup).fnSup (ps := ["self"]) sc_Xi (T.cellOk _ hsup) (fun _ _ _ _ _ _ us h => by obtain ⟨a, rfl⟩ := len1 h; rfl) (fun vs H Q E h => by obtain ⟨_, _, _, rfl, _⟩ := h; rfl) fun c0 Ar outer s H vs Q E hf hr h => ?_
  obtain ⟨p, dx, b, rfl, hp, q⟩ := h
  have M := T.supM .dFixed_init hsup hf ⟨_, rfl, by decide +kernel⟩
  refine ⟨_, (psa_super (i := 0) M rfl rfl rfl hr rfl (by decide) rfl rfl rfl (pa_cons (pe_lst pa_nil) (pa_cons (pe_lst pa_nil) (pa_cons (pe_lst pa_nil) pa_nil))) (psa_of pss_nil)), ?_⟩
  refine ⟨p, B (Flt.fixed b).cl, dx, [], A .dFilter_init, spFInit K B, rfl, hp, T.supC (sup_X b), ok_Filter_init T, fun q1 hq1 => ?_⟩
  refine ⟨Nat.zero_le _, fun l1 hl1 => ⟨Nat.zero_le _, fun l2 hl2 => ⟨Nat.zero_le _, fun l3 hl3 => ?_⟩⟩⟩
  have e2 := ((Ex.new (o := .lst []) hl1).trans (Ex.new (o := .lst []) hl2)).trans (Ex.new (o := .lst []) hl3)
  have e3 := (Ex.new hq1 (o := .met (A .dFilter_init) p)).trans e2
  refine ⟨e2 _ _ upd_same, p, l1, l2, l3, dx, (Flt.fixed b).cl, [], [], [], [], [], rfl, e3 _ _ hp, .inl (SqL.of (((Ex.new hl2).trans (Ex.new hl3)) _ _ upd_same)), by decide, (fun x hx => nomatch hx), .inl (SqL.of ((Ex.new hl3) _ _ upd_same)), by decide, (fun x hx => nomatch hx), .inl (SqL.of upd_same), .inl rfl, fun H' t1 t2 t3 ks' eb g hd mem => ?_⟩
  refine q _ ((ex_b e3).trans eb) fun N S => ⟨dx, t1, t2, t3, ks', [], by rw [List.append_nil]; exact g, ?_, rfl, List.eq_nil_iff_forall_not_mem.mpr fun x hx => nomatch (mem x).mp hx⟩
  obtain ⟨cs, c1, c2, c3⟩ := hd.cs
  obtain ⟨ls, l1, l2⟩ := hd.ls
  refine ⟨⟨cs, c1, c2, (fun c hc => nomatch c3 c hc)⟩, hd.kt, hd.kn, (fun k hk => nomatch hd.ks k hk), ⟨ls, l1, ?_⟩⟩
  rcases l2 with h | ⟨_, _, _, h⟩
  · exact .inl h
  · exact nomatch h
theorem ne_new {H : Hp} {p p' C C' dx dx' t1 t2 t3 : Addr} {r : List (Str × V)} (h : H p = some (.ins C dx [])) (h' : H p' = some (.ins C' dx' (hdr t1 t2 t3 ++ r))) : p' ≠ p := fun z => by
  rw [z, h] at h'
  injection h' with h'
  injection h' with _ _ h3
  exact nomatch h3
theorem Rest.exb {N : List Str} {S : List Int} {H H' : Hp} {p C dx : Addr} (e : ExB p H H') (hp : H p = some (.ins C dx [])) : ∀ {F : Flt} {ks : List Int} {r : List (Str × V)}, Rest B N S H ks F r → Rest B N S H' ks F r := by
  intro F
  have hp' : ∃ C dx fs, H p = some (.ins C dx fs) := ⟨_, _, _, hp⟩
  induction F with
  | cmp o a b => exact fun h => h
  | among c vs => exact fun h => h
  | missing c => exact fun h => h
  | fixed b => exact fun h => h
  | turned f ih =>
    rintro ks r ⟨p, dx, t1, t2, t3, ks', r', h1, h2, h3, h4⟩
    exact ⟨p, dx, t1, t2, t3, ks', r', h1, e _ _ (ne_new hp h2) h2, h3.exb e hp', ih h4⟩
  | both f g ih1 ih2 =>
    rintro ks r ⟨p, dx, t1, t2, t3, ks', r', q, ex, u1, u2, u3, ls', r'', h1, h2, h3, h4, h5, h6, h7⟩
    exact ⟨p, dx, t1, t2, t3, ks', r', q, ex, u1, u2, u3, ls', r'', h1, e _ _ (ne_new hp h2) h2, h3.exb e hp', ih1 h4, e _ _ (ne_new hp h5) h5, h6.exb e hp', ih2 h7⟩
  | either f g ih1 ih2 =>
    rintro ks r ⟨p, dx, t1, t2, t3, ks', r', q, ex, u1, u2, u3, ls', r'', h1, h2, h3, h4, h5, h6, h7⟩
    exact ⟨p, dx, t1, t2, t3, ks', r', q, ex, u1, u2, u3, ls', r'', h1, e _ _ (ne_new hp h2) h2, h3.exb e hp', ih1 h4, e _ _ (ne_new hp h5) h5, h6.exb e hp', ih2 h7⟩
theorem FltAt.exb {N : List Str} {S : List Int} {H H' : Hp} {p q C dx : Addr} {F : Flt} (h : FltAt B N S H F q) (e : ExB p H H') (hp : H p = some (.ins C dx [])) : FltAt B N S H' F q := by
  obtain ⟨dx, t1, t2, t3, ks, r, h1, h2, h3⟩ := h
  exact ⟨dx, t1, t2, t3, ks, r, e _ _ (ne_new hp h1) h1, h2.exb e ⟨_, _, _, hp⟩, h3.exb e hp⟩
theorem FltAt.ne {N : List Str} {S : List Int} {H : Hp} {p q C dx : Addr} {F : Flt} (h : FltAt B N S H F q) (hp : H p = some (.ins C dx [])) : q ≠ p := by
  obtain ⟨dx, t1, t2, t3, ks, r, h1, h2, h3⟩ := h
  exact ne_new hp h1
/-! ### Turned -/
theorem prop_any (T : Txt P K mg A B Z) {n f : Str} {d : Df} (hm : (n, d) ∈ [(("columns" : Str), Df.dFilter_columns), ("constants", .dFilter_constants), ("links", .dFilter_links)]) (F : FnR P w K mg base CX0 1 (A d) (spProp B f)) {X : Cx} (hX : X.prog = P ∧ X.w = w ∧ X.K = K ∧ X.mg = mg ∧ X.base = base) :
    PropAny X n 1 (fun _ => spProp B f) (GoodF B fltC) := by
  obtain ⟨rfl, rfl, rfl, rfl, rfl⟩ := hX
  obtain ⟨p, h⟩ := T.prop n d hm
  rintro C ⟨cl, rfl, g⟩
  exact ⟨T.cls cl, p, A d, h cl g, F⟩
def spTInit (B : Cl → Addr) : Sp := fun vs H Q _ => ∃ (p q dx : Addr) (N : List Str) (S : List Int) (F : Flt), vs = [.ref p, .ref q] ∧ H p = some (.ins (B .cTurned) dx []) ∧ N ∈ Ns ∧ S.length < 64 ∧ FltAt B N S H F q ∧ ∀ H', ExB p H H' → FltAt B N S H' (.turned F) p → Q .non H'
theorem sc_Ti : NScope ["self", "inner", "__class__"] ["self", "inner"] ["__class__"] (defScope (Df.st .dTurned_init)) := nscope_by (by decide +kernel)
theorem nd_len {S ks : List Int} (h : ks.Nodup) (hs : ∀ k, k ∈ ks → k ∈ S) (hl : S.length < 64) : ks.length < 64 := Nat.lt_of_le_of_lt (sub_len h hs) hl
theorem ok_Ti (T : Txt P K mg A B Z) : FnR P w K mg base CX0 3 (A .dTurned_init) (spTInit B) := by
  have hsup : Df.dTurned_init.sup = some .cTurned := rfl
  refine (T.d1 .dTurned_init hsup).fnSup (ps := ["self", "inner"]) sc_Ti (T.cellOk _ hsup) (fun _ _ _ _ _ _ us h => by obtain ⟨a, b, rfl⟩ := len2 h; rfl) (fun vs H Q E h => by obtain ⟨_, _, _, _, _, _, rfl, _⟩ := h; rfl) fun c0 Ar outer s H vs Q E hf hr h => ?_
  obtain ⟨p, q', dx, N, S, F, rfl, hp, hN, sl, hF, q⟩ := h
  have nd := sc_Ti.nd
  have M := T.supM .dTurned_init hsup hf ⟨_, rfl, by decide +kernel⟩
  have hr2 : Room 2 _ := hr
  refine ⟨_, (psa_super (i := 0) M rfl rfl rfl hr rfl (by decide) rfl rfl rfl (pa_cons (pe_pa (pv 1) (prop_any T (by decide) (ok_cols T) ⟨rfl, rfl, rfl, rfl, rfl⟩) hr2) (pa_cons (pe_pa (pv 1) (prop_any T (by decide) (ok_cons T) ⟨rfl, rfl, rfl, rfl, rfl⟩) hr2) (pa_cons (pe_pa (pv 1) (prop_any T (by decide) (ok_links T) ⟨rfl, rfl, rfl, rfl, rfl⟩) hr2) pa_nil)))
    (psa_of (pss_one (ps_fld (pv 0) (pv 1) rfl)))), ?_⟩
  obtain ⟨ex, t1, t2, t3, ks, r, f1, f2, f3⟩ := hF
  have hF : FltAt B N S H F q' := ⟨ex, t1, t2, t3, ks, r, f1, f2, f3⟩
  have hg : GoodF B fltC (B F.cl) := ⟨F.cl, rfl, flt_C F⟩
  obtain ⟨cs, c1, c2, c3⟩ := f2.cs
  obtain ⟨ls, l1, l2⟩ := f2.ls
  refine ⟨p, B .cTurned, dx, [], A .dFilter_init, spFInit K B, rfl, hp, T.supC rfl, ok_Filter_init T, fun q1 hq1 => ?_⟩
  have e1 : Ex H (upd H q1 (.met (A .dFilter_init) p)) := Ex.new hq1
  have g1 := e1 _ _ f1
  refine ⟨_, rfl, q', _, ex, _, rfl, g1, hg, q', ex, F.cl, _, _, rfl, g1, lk_cols t1 t2 t3 r, ?_⟩
  refine ⟨_, rfl, q', _, ex, _, rfl, g1, hg, q', ex, F.cl, _, _, rfl, g1, lk_cons t1 t2 t3 r, ?_⟩
  refine ⟨_, rfl, q', _, ex, _, rfl, g1, hg, q', ex, F.cl, _, _, rfl, g1, lk_links t1 t2 t3 r, ?_⟩
  have cl : cs.length < 64 := Nat.lt_of_le_of_lt (sub_len c2 c3) (by rcases Ns_len hN with e | e <;> omega)
  refine ⟨upd_same, p, t1, t2, t3, dx, .cTurned, N, cs, S, ks, ls, rfl, e1 _ _ hp, .inr (SqT.of (e1 _ _ c1)), cl, c3, .inr (SqT.of (e1 _ _ f2.kt)), nd_len f2.kn f2.ks sl, f2.ks, .inr (e1 _ _ l1), l2.mono e1, fun H' u1 u2 u3 ks' eb g hd mem => ?_⟩
  have hb := ((ex_b (p := p) e1).trans eb).put (o := .ins (B .cTurned) dx (hdr u1 u2 u3 ++ rI q'))
  refine ⟨_, rfl, _, rfl, p, B .cTurned, dx, _, rfl, g, T.cls _, T.no _ _ (by decide), (by show 3 < 1000; decide), ?_⟩
  exact q _ hb (FltAt.mkTurned (by rw [upd_same]; rfl) (hd.exb (ExB.refl p H').put ⟨_, _, _, g⟩) (hF.exb hb hp))
end
end Hs
set_option Elab.async false
set_option linter.all false
set_option maxRecDepth 100000
set_option maxHeartbeats 4000000
/-! A dict comprehension given to a name. -/
namespace Hs
open PySem PySem.Spec PyProof.Rows L2
section
variable {X : Cx}
theorem swd_true {kx vx : Expr} {gs : List Comprehension} {scope : Scope} {pos py : Pos} {y : Str} {l : Nat} {env : Env} (hk : env.scope.kind = .function) (hy : env.scope.names.lookup y = some .local) (hl : (py.line == pos.line) = true)
    (ha : (scope.names.any fun (n, k) => n == y && (k == .local || k == .cell)) = false) : swapsWith (.DictComp kx vx gs scope pos) (some (.Name y py)) l env = pure true := by
  have e1 : env.kindOf y = some .local := hy
  have e2 : env.blockKind = .function := by unfold Env.blockKind; rw [hk]; rfl
  unfold swapsWith
  simp only [e2, e1, ha, Expr.pos, hl]
  rfl
/-- what the use of the new dict comes to -/
theorem use_post {pins : List (Addr × Obj)} {D0 : Ends} {σ : L2.St} {i : Nat} {m : Str → Option Value} {y : Str} {py : Pos} {s' : Shared} {H' : Hp} {D C : Addr} (hN : X.N.Nodup) (hy : X.N[i]? = some y) (hyl : X.env.scope.names.lookup y = some .local)
    (I' : Inv X pins σ H' s') (q : gName i (.ref D) σ H' D0.nx) (hn : s'.heap.Ns C m) (f : FpOk X pins H' C) :
    compPost (model X.prog X.w) X.A X.xe (some (assign (.Name y py) X.env)) (fun _ s' => SP X pins D0 .next s') (.ref D) C (.ok .next) s' := by
  show wpAny _ _ (assign (.Name y py) X.env (.ref D)) _ _ _
  refine wpAny_assign_Name (store_ok2 (v := V.ref D) I' hN hy (.inl hyl) rfl (fun s2 I2 ⟨a, sb, ha⟩ => ?_) (.inr hyl))
  obtain ⟨f0, f1, f2, f3, f4, f5⟩ := f
  have hca : C ≠ a := ha.elim (fun z => by rw [z]; exact f1) fun z e => f4 y a z e.symm
  exact ⟨m, hn.sameBut sb hca, fun h3 sb3 => ⟨_, H', I2.turned (t' := s2.toks) (fun b o hb e => (sb3.2 b hb).trans e) f0 f1 f3 f4 f5, q⟩⟩
theorem ps_setDc {i : Nat} {y : Str} {py : Pos} {kx vx tg iter : Expr} {ifs : List Expr} {scope : Scope} {own : List (Str × Nat)} {pos spos : Pos} {wi : TI} {g : TG} {tt : TT} {tk tv : TE} (hc : X.calm = true) (hN : X.N.Nodup) (hy : X.N[i]? = some y) (hyl : X.env.scope.names.lookup y = some .local)
    (hsw : swapsWith (.DictComp kx vx [⟨tg, iter, ifs, 0⟩] scope pos) (some (.Name y py)) spos.line X.env = pure true) (hi : PI X tg iter wi) (ok : BlkOk X.N X.env.scope scope own)
    (hg : ∀ (s : Shared) (H : Hp) (C : Addr) (cl : List (Str × Addr)) (fp : List Addr), PG (X.blk s H scope (compEnvC scope cl C X.env) fp) tg g) (ht : ∀ (s : Shared) (H : Hp) (C : Addr) (cl : List (Str × Addr)) (fp : List Addr), PTs (X.blk s H scope (compEnvC scope cl C X.env) fp) ifs tt)
    (hk : ∀ (s : Shared) (H : Hp) (C : Addr) (cl : List (Str × Addr)) (fp : List Addr), PE (X.blk s H scope (compEnvC scope cl C X.env) fp) kx tk)
    (he : ∀ (s : Shared) (H : Hp) (C : Addr) (cl : List (Str × Addr)) (fp : List Addr), PE (X.blk s H scope (compEnvC scope cl C X.env) fp) vx tv) (hs : ∀ x, foldedSetIterable iter X.env x = pure x := by intro _; rfl) :
    PS X (.Assign [.Name y py] (.DictComp kx vx [⟨tg, iter, ifs, 0⟩] scope pos) spos) (tAsg (tDc wi g tt tk tv (own.map (·.2))) (gName i)) := by
  refine ⟨fun pins s σ H D I h => ?_⟩
  rw [exec_Assign_Name_used _ _ _ _ hsw]
  refine wpAny_bind (wpAny_standAt (wpAny_bind ?_))
  show wpAny _ X.A (do let _ ← comprehension (.DictComp kx vx [⟨tg, iter, ifs, 0⟩] scope pos) scope X.env (firstIterPos [⟨tg, iter, ifs, 0⟩] pos) newDict false (eval iter X.env) (some (assign (.Name y py) X.env))) _ _ s
  have h : tDc wi g tt tk tv (own.map (·.2)) σ H (fun x H1 => gName i x σ H1 D.nx) := h
  exact wpAny_bind (thn (dc_core (Qf := fun _ s' => SP X pins D .next s') hc hN I hi ok hg ht hk he hs h fun L C s' m H' I' q hn f => use_post hN hy hyl I' q hn f) fun _ s' hq => wpAny_pure (wpAny_pure hq))
theorem ps_setTc {i : Nat} {y : Str} {py : Pos} {kx vx tg iter : Expr} {ifs : List Expr} {scope : Scope} {own : List (Str × Nat)} {pos spos : Pos} {wi : TI} {g : TG} {tt : TT} {tk tv : TE} (hu : X.A.units + 2 < cLine) (hc : X.calm = true) (hN : X.N.Nodup) (hy : X.N[i]? = some y) (hyl : X.env.scope.names.lookup y = some .local)
    (hsw : swapsWith (.DictComp kx vx [⟨tg, iter, ifs, 0⟩] scope pos) (some (.Name y py)) spos.line X.env = pure true) (hi : PI X tg iter wi) (ok : BlkOk X.N X.env.scope scope own)
    (hg : ∀ (s : Shared) (H : Hp) (C : Addr) (cl : List (Str × Addr)) (fp : List Addr), PG (X.blk s H scope (compEnvC scope cl C X.env) fp) tg g) (ht : ∀ (s : Shared) (H : Hp) (C : Addr) (cl : List (Str × Addr)) (fp : List Addr), PTs (X.blk s H scope (compEnvC scope cl C X.env) fp) ifs tt)
    (hk : ∀ (s : Shared) (H : Hp) (C : Addr) (cl : List (Str × Addr)) (fp : List Addr), PE (X.blk s H scope (compEnvC scope cl C X.env) fp) kx tk)
    (he : ∀ (s : Shared) (H : Hp) (C : Addr) (cl : List (Str × Addr)) (fp : List Addr), PE (X.blk s H scope (compEnvC scope cl C X.env) fp) vx tv) (hs : ∀ x, foldedSetIterable iter X.env x = pure x := by intro _; rfl) :
    PS X (.Assign [.Name y py] (.DictComp kx vx [⟨tg, iter, ifs, 0⟩] scope pos) spos) (tAsg (tTc X.prog X.w wi g tt tk tv (own.map (·.2))) (gName i)) := by
  refine ⟨fun pins s σ H D I h => ?_⟩
  rw [exec_Assign_Name_used _ _ _ _ hsw]
  refine wpAny_bind (wpAny_standAt (wpAny_bind ?_))
  show wpAny _ X.A (do let _ ← comprehension (.DictComp kx vx [⟨tg, iter, ifs, 0⟩] scope pos) scope X.env (firstIterPos [⟨tg, iter, ifs, 0⟩] pos) newDict false (eval iter X.env) (some (assign (.Name y py) X.env))) _ _ s
  have h : tTc X.prog X.w wi g tt tk tv (own.map (·.2)) σ H (fun x H1 => gName i x σ H1 D.nx) := h
  exact wpAny_bind (thn (tc_core (Qf := fun _ s' => SP X pins D .next s') hu hc hN I hi ok hg ht hk he hs h fun L C s' m H' I' q hn f => use_post hN hy hyl I' q hn f) fun _ s' hq => wpAny_pure (wpAny_pure hq))
end
end Hs
set_option Elab.async false
set_option linter.all false
set_option maxRecDepth 100000
set_option maxHeartbeats 4000000
/-! Among.__init__. -/
namespace Hs
open PySem PySem.Spec PyProof.Rows L2 NdefX
section
variable {P : Program} {w : World} {K : PySem.W.Frag} {mg : Str → Option Value} {base : Heap} {A : Df → Addr} {B Z : Cl → Addr}
def spAIn (B : Cl → Addr) : Sp := fun vs H Q _ => ∃ (p dx t : Addr) (c : Str) (ks : List Int) (N : List Str) (S : List Int), vs = [.ref p, .str c, .ref t] ∧ H p = some (.ins (B .cAmong) dx []) ∧ N ∈ Ns ∧ c ∈ N ∧ H t = some (.tup (ks.map V.int)) ∧ ks ≠ [] ∧ ks.length < 64 ∧ S.length ≤ 4 ∧ (∀ k, k ∈ ks → k ∈ S) ∧
  ∀ H', ExB p H H' → FltAt B N S H' (.among c ks) p → Q .non H'
theorem sc_Ai : NScope ["self", "column", "values", "__class__", "found", "at", "value"] ["self", "column", "values"] ["__class__"] (defScope (Df.st .dAmong_init)) := nscope_by (by decide +kernel)
theorem ok_Ai0 (T : Txt P K mg A B Z) : FnR P w K mg base CX0 4 (A .dAmong_init) (fun vs H Q E => ∃ ws rest, vs = ws ++ rest ∧ ws.length = 2 ∧ rest.length ≤ sizeLine ∧ ∀ p, H p = Option.none → spAIn B (ws ++ [V.ref p]) (upd H p (.tup rest)) Q E) := by
  have hsup : Df.dAmong_init.sup = some .cAmong := rfl
  refine (T.d1 .dAmong_init hsup).fnSupStar (ps := ["self", "column"]) (pv := "values") sc_Ai (T.cellOk _ hsup) (fun _ _ _ _ _ _ us rest h => by obtain ⟨a, b, rfl⟩ := len2 h; cases rest <;> rfl) fun c0 Ar outer s H vs Q E hf hr h => ?_
  obtain ⟨p, dx, t, c, ks, N, S, rfl, hp, hN, hc, ht, kn, kl, sl, hkS, q⟩ := h
  have nd := sc_Ai.nd
  have M := T.supM .dAmong_init hsup hf ⟨_, rfl, by decide +kernel⟩
  have hr1 : Room 1 _ := hr.mono (j := 1) (by decide)
  obtain ⟨t1, t2, t3, t4, t5, t6, t7, g1, g2, g3, g4, g5, g6, g7⟩ := T.gMost
  refine ⟨_, (psa_cons (ps_setDc (i := 4) (own := [("at", 5), ("value", 6)]) (g := gTup K 2 (gCons (gName 5) (gCons (gName 6) gNil))) rfl nd rfl rfl (swd_true rfl rfl rfl (by decide +kernel)) (pi_enumT (by rfl) (T.blt _ (by decide)) (pa_cons (pv 2) pa_nil)) (blkOk_by (N := ["self", "column", "values", "__class__", "found", "at", "value"]) (sc := defScope (Df.st .dAmong_init)) (by decide +kernel))
      (fun _ _ _ _ _ => pg_tup rfl (pgs_cons (pg_name (i := 5) nd rfl (.inl rfl)) (pgs_cons (pg_name (i := 6) nd rfl (.inl rfl)) pgs_nil)))
      (fun _ _ _ _ _ => pts_one (pt_not (pt_val (pe_fn (ok_is_integer T) (by exact hr1) rfl (T.gD .dis_integer rfl) (T.dk .dis_integer).kp (pa_cons (pv 6) pa_nil))))) (fun _ _ _ _ _ => pv 5) (fun _ _ _ _ _ => pv 6))
    <| psa_super (i := 0) M rfl rfl rfl hr rfl (by decide) rfl rfl rfl (pa_cons (pv 1) (pa_cons (pe_ifExp (pt_cmpR op_gt (pe_callB call_lenD rfl (T.blt _ (by decide)) PySem.boot_len (pa_cons (pv 4) pa_nil)) pe_int (nomark _)) (pe_lst pa_nil) (pv 2)) pa_nil))
    (psa_of (pss_cons (ps_if (pt_cmpR op_gt (pe_callB call_lenD rfl (T.blt _ (by decide)) PySem.boot_len (pa_cons (pv 4) pa_nil)) pe_int (nomark _)) pss_never pss_nil)
      (pss_cons (ps_if (pt_cmpR op_eq (pe_callB call_len_seq rfl (T.blt _ (by decide)) PySem.boot_len (pa_cons (pv 2) pa_nil)) pe_int (nomark _)) pss_never pss_nil)
      (pss_one (ps_if (pt_cmpR op_gt (pe_callB call_len_seq rfl (T.blt _ (by decide)) PySem.boot_len (pa_cons (pe_fld (pv 0) rfl) pa_nil)) (pe_glob (v := .int 4) rfl g3 ⟨_, rfl⟩) (nomark _)) pss_never pss_nil)))))), ?_⟩
  have pn : ∀ {x : Addr}, H x = none → p ≠ x := fun h z => by rw [← z, hp] at h; cases h
  refine ⟨_, rfl, t, _, rfl, SqT.of ht, fun D hD => dc_it walk_enumT (fun i H1 => Ex H H1 ∧ H1 D = some (.dK [])) ⟨Ex.new hD, upd_same⟩ (fun i H1 _ q => SqT.of (q.1 _ _ ht)) (fun i x H1 H2 hi q y => ?_) fun H1 q1 => ?_⟩
  · obtain ⟨T2, z, hz, rfl, hT2, rfl⟩ := y
    rw [List.getElem?_map] at hz
    obtain ⟨k, hk, rfl⟩ := Option.map_eq_some_iff.mp hz
    refine ⟨T2, _, rfl, SqT.of upd_same, rfl, _, _, rfl, _, _, rfl, rfl, rfl, ?_⟩
    exact ⟨_, rfl, .int k, rfl, .inl ⟨k, rfl, true, rfl, q.1.trans (Ex.new hT2), (Ex.new hT2) _ _ q.2⟩⟩
  obtain ⟨e1, hD1⟩ := q1
  refine ⟨p, B .cAmong, dx, [], A .dPicked_init, spPInit K B, rfl, e1 _ _ hp, T.supC rfl, ok_Pi T, fun q1 hq1 => ?_⟩
  have e2 := e1.trans (Ex.new (o := .met (A .dPicked_init) p) hq1)
  refine ⟨_, rfl, _, rfl, D, [], rfl, (Ex.new hq1) _ _ hD1, 0, 0, rfl, rfl, false, rfl, iteF ⟨_, rfl, ?_⟩⟩
  refine ⟨upd_same, p, t, dx, c, .cAmong, N, S, ks, rfl, e2 _ _ hp, rfl, hN, hc, .inr (SqT.of (e2 _ _ ht)), kl, hkS, fun H' t1 t2 t3 ks' eb g hd mem => ?_⟩
  have eB : ExB p H H' := (ex_b e2).trans eb
  have hD' : H' D = some (.dK []) := eb _ _ (pn hD).symm ((Ex.new hq1) _ _ hD1)
  have ht' : H' t = some (.tup (ks.map V.int)) := eB _ _ (fun z => by rw [z, hp] at ht; cases ht) ht
  refine ⟨_, rfl, D, [], rfl, hD', 0, 0, rfl, rfl, false, rfl, iteF ?_⟩
  refine ⟨_, rfl, t, _, rfl, .inr (SqT.of ht'), ?_⟩
  have hk0 : ks.length ≠ 0 := fun z => kn (List.length_eq_zero_iff.mp z)
  have kl' : ks'.length ≤ 4 := Nat.le_trans (sub_len hd.kn hd.ks) sl
  refine ⟨rfl, false, congrArg V.bl (decide_eq_false (fun z => hk0 (by injection z with z; rw [List.length_map] at z; omega))), iteF ?_⟩
  refine ⟨_, rfl, p, B .cAmong, dx, _, _, rfl, g, T.cls _, T.no _ _ (by decide), lk_cons t1 t2 t3 (rC c), ?_⟩
  refine ⟨t2, _, rfl, .inr (SqT.of hd.kt), ?_⟩
  refine ⟨_, 4, rfl, rfl, false, congrArg V.bl (decide_eq_false (by rw [List.length_map]; omega)), iteF ?_⟩
  exact q _ eB ⟨dx, t1, t2, t3, ks', rC c, g, hd, rfl, hc, mem, kn⟩
/-- Among(column, *values) -/
def spAInit (B : Cl → Addr) : Sp := fun vs H Q _ => ∃ (p dx : Addr) (c : Str) (ks : List Int) (N : List Str) (S : List Int), vs = .ref p :: .str c :: ks.map V.int ∧ H p = some (.ins (B .cAmong) dx []) ∧ N ∈ Ns ∧ c ∈ N ∧ ks ≠ [] ∧ ks.length < 64 ∧ S.length ≤ 4 ∧ (∀ k, k ∈ ks → k ∈ S) ∧
  ∀ H', ExB p H H' → FltAt B N S H' (.among c ks) p → Q .non H'
theorem ok_Ai (T : Txt P K mg A B Z) : FnR P w K mg base CX0 4 (A .dAmong_init) (spAInit B) := by
  refine (ok_Ai0 T).imp fun vs H Q E h => ?_
  obtain ⟨p, dx, c, ks, N, S, rfl, hp, hN, hc, kn, kl, sl, hkS, q⟩ := h
  refine ⟨[.ref p, .str c], ks.map V.int, rfl, rfl, by rw [List.length_map, sizeLine_eq]; omega, fun t ht => ?_⟩
  have e : Ex H (upd H t (.tup (ks.map V.int))) := Ex.new ht
  exact ⟨p, dx, t, c, ks, N, S, rfl, e _ _ hp, hN, hc, upd_same, kn, kl, sl, hkS, fun H' eb hF => q H' ((ex_b e).trans eb) hF⟩
end
end Hs
set_option Elab.async false
set_option linter.all false
set_option maxRecDepth 100000
set_option maxHeartbeats 4000000
/-! Comprehensions of two turns, over values. -/
namespace Hs
open PySem PySem.Spec PyProof.Rows L2
theorem take_fl {α : Type} {xs : List α} {F : α → List V} {i : Nat} {x : α} (h : xs[i]? = some x) : (xs.take (i + 1)).flatMap F = (xs.take i).flatMap F ++ F x := by
  rw [List.take_succ, h, List.flatMap_append]
  simp
/-- ys x: what the inner turn goes over at x; Fx: what is put down -/
theorem lc2_at {J : It} {xs : List V} {G : Hp → Prop} {H1 : Hp} {D : Addr} {g g1 : TG} {tt tt1 : TT} {wi1 : TI} {te : TE} {vs vs1 : List Nat} {σ : L2.St} {Qd : Hp → Prop} {n : Nat} (Y : Nat → Hp → V → Hp → Prop) (wk : Walk J n G Y) (hY : ∀ i H x H', Y i H x H' → H' = H ∧ xs[i]? = some x) (hxn : xs.length = n) (hG : ∀ H', Ex H1 H' → G H') (hD : H1 D = none) (ys : V → List V) (F : V → V → Option V)
    (hn : ∀ i, ((xs.take i).flatMap ys).length ≤ 1000)
    (hi : ∀ x H, x ∈ xs → Ex H1 H → ∀ (Kn : Hp → Prop) (Kc : L2.St → It → Hp → Prop), (∀ σ2 J1 H4 G1 (Y1 : Nat → Hp → V → Hp → Prop), Ex H H4 → Walk J1 (ys x).length G1 Y1 → (∀ i H y H', Y1 i H y H' → H' = H ∧ (ys x)[i]? = some y) → (∀ H', Ex H1 H' → G1 H') →
        (∀ y H5, y ∈ ys x → Ex H1 H5 → ∀ (KK : V → Hp → Prop) (KN : Hp → Prop), (∀ z H7, Ex H5 H7 → F x y = some z → KK z H7) → (∀ H6, Ex H5 H6 → F x y = none → KN H6) →
          g1 y (wipe σ2 vs1) H5 fun σ3 H6 => wipe σ3 vs1 = wipe σ2 vs1 ∧ tt1 σ3 H6 fun b H7 => if b = true then te σ3 H7 KK else KN H7) → Kc σ2 J1 H4) →
      g x (wipe σ vs) H fun σ2 H2 => wipe σ2 vs = wipe σ vs ∧ tt σ2 H2 fun b H3 => if b = true then wi1 σ2 H3 (Kc σ2) else Kn H3)
    (hd : ∀ H', Ex H1 H' → H' D = some (.lst (xs.flatMap fun x => (ys x).filterMap (F x))) → Qd H') :
    ∃ W : Nat → Nat → Hp → Prop, (∃ m, W 0 m (upd H1 D (.lst []))) ∧ ∀ i m H, W i m H →
      (J.stop i H ∧ Qd H) ∨ (J.go i H ∧ ∃ Nx : Hp → Prop, (∀ H', Nx H' → ∃ m', m' < m ∧ W (i + 1) m' H') ∧ ∀ x H', J.yld i H x H' → g x (wipe σ vs) H' fun σ2 H2 => wipe σ2 vs = wipe σ vs ∧ tt σ2 H2 fun b H3 =>
        if b = true then wi1 σ2 H3 fun J1 H4 => ∃ W1 : Nat → Nat → Hp → Prop, (∃ m, W1 0 m H4) ∧ ∀ j k H, W1 j k H →
          (J1.stop j H ∧ Nx H) ∨ (J1.go j H ∧ ∃ Nx1 : Hp → Prop, (∀ H', Nx1 H' → ∃ k', k' < k ∧ W1 (j + 1) k' H') ∧ ∀ x H', J1.yld j H x H' → g1 x (wipe σ2 vs1) H' fun σ3 H5 => wipe σ3 vs1 = wipe σ2 vs1 ∧ tt1 σ3 H5 fun b H6 =>
            if b = true then te σ3 H6 fun y H7 => ∃ acc, H7 D = some (.lst acc) ∧ acc.length < sizeLine ∧ Nx1 (upd H7 D (.lst (acc ++ [y]))) else Nx1 H6)
        else Nx H3) := by
  subst hxn
  refine ⟨fun i m H => m = xs.length - i ∧ i ≤ xs.length ∧ Ex H1 H ∧ H D = some (.lst ((xs.take i).flatMap fun x => (ys x).filterMap (F x))), ⟨xs.length, by simp, Nat.zero_le _, Ex.new hD, by rw [List.take_zero]; exact upd_same⟩, ?_⟩
  rintro i m H ⟨rfl, hi0, e, hL⟩
  have q := hG H e
  by_cases hlt : i < xs.length
  · refine .inr ⟨wk.goes i H hlt q, fun H' => Ex H1 H' ∧ H' D = some (.lst ((xs.take (i + 1)).flatMap fun x => (ys x).filterMap (F x))), fun H' p' => ⟨xs.length - (i + 1), by omega, rfl, hlt, p'⟩, fun x H' y => ?_⟩
    obtain ⟨rfl, hx⟩ := hY _ _ _ _ (wk.yields i H x H' hlt q y)
    have hm := List.mem_of_getElem? hx
    refine hi x H' hm e _ _ fun σ2 J1 H4 G1 Y1 e4 wk1 hY1 hG1 st => ?_
    have hlen : ∀ j, (((xs.take i).flatMap fun x => (ys x).filterMap (F x)) ++ ((ys x).take j).filterMap (F x)).length < sizeLine := fun j => by
      have h1 := hn (i + 1)
      rw [take_fl hx, List.length_append] at h1
      have h2 : ∀ L : List V, (L.flatMap fun x => (ys x).filterMap (F x)).length ≤ (L.flatMap ys).length := fun L => by
        induction L with
        | nil => exact Nat.le_refl _
        | cons a L ih =>
          rw [List.flatMap_cons, List.flatMap_cons, List.length_append, List.length_append]
          have := List.length_filterMap_le (F a) (ys a)
          omega
      have h3 := h2 (xs.take i)
      have h4 := List.length_filterMap_le (F x) ((ys x).take j)
      have h5 := List.length_take_le j (ys x)
      have h6 : ((ys x).take j).length ≤ (ys x).length := by rw [List.length_take]; omega
      rw [List.length_append, sizeLine_eq]
      omega
    refine ⟨fun j k H => k = (ys x).length - j ∧ j ≤ (ys x).length ∧ Ex H1 H ∧ H D = some (.lst (((xs.take i).flatMap fun x => (ys x).filterMap (F x)) ++ ((ys x).take j).filterMap (F x))), ⟨(ys x).length, by simp, Nat.zero_le _, e.trans e4, by rw [List.take_zero, List.filterMap_nil, List.append_nil]; exact e4 _ _ hL⟩, ?_⟩
    rintro j k H6 ⟨rfl, hj, e6, hL6⟩
    by_cases hjl : j < (ys x).length
    · refine .inr ⟨wk1.goes j H6 hjl (hG1 _ e6), fun H' => Ex H1 H' ∧ H' D = some (.lst (((xs.take i).flatMap fun x => (ys x).filterMap (F x)) ++ ((ys x).take (j + 1)).filterMap (F x))), fun H' p' => ⟨(ys x).length - (j + 1), by omega, rfl, hjl, p'⟩, fun y H' yy => ?_⟩
      obtain ⟨rfl, hy⟩ := hY1 _ _ _ _ (wk1.yields j H6 y H' hjl (hG1 _ e6) yy)
      refine st y H' (List.mem_of_getElem? hy) e6 _ _ (fun z H7 e7 hF => ⟨_, e7 _ _ hL6, hlen j, Ex.mut (e6.trans e7) hD, ?_⟩) (fun H7 e7 hF => ⟨e6.trans e7, ?_⟩)
      · rw [upd_same, take_fm hy, hF, List.append_assoc]; rfl
      · rw [take_fm hy, hF]
        simpa using e7 _ _ hL6
    · have e2 : j = (ys x).length := by omega
      subst e2
      refine .inl ⟨wk1.stops H6 (hG1 _ e6), e6, ?_⟩
      rw [hL6, List.take_length, take_fl hx]
  · have e2 : i = xs.length := by omega
    subst e2
    rw [List.take_length] at hL
    exact .inl ⟨wk.stops H q, hd H e hL⟩
end Hs
set_option Elab.async false
set_option linter.all false
set_option maxRecDepth 100000
set_option maxHeartbeats 4000000
/-! joined_links. -/
namespace Hs
open PySem PySem.Spec PyProof.Rows L2
section
variable {P : Program} {w : World} {K : PySem.W.Frag} {mg : Str → Option Value} {base : Heap} {A : Df → Addr} {B Z : Cl → Addr}
/-- the entries of the dict of links -/
def lkT (N : List Str) : List Leaf := N.map Leaf.text
theorem lkT_V (N : List Str) : (lkT N).map lV = N.map V.str := by
  unfold lkT
  rw [List.map_map]; rfl
def enL (N : List Str) : List V → List Ent
  | .ref p :: _ => [(lkT N, p, .bl true)]
  | _ => []
theorem tst_en {N : List Str} {pre : List V} {p : Addr} (h : ∀ v, v ∈ pre → ∃ q, v = .ref q) : tst (enL N pre) (lkT N) p (.bl true) = enL N (pre ++ [.ref p]) := by
  cases pre with
  | nil => simp [tst, tat, enL]
  | cons v pre =>
    obtain ⟨q, rfl⟩ := h v (List.mem_cons_self ..)
    simp [tst, tat, enL]
def LnkAll (N : List Str) (H : Hp) (xs : List V) : Prop := xs.length ≤ 2 ∧ (∀ v, v ∈ xs → ∃ p, v = .ref p ∧ H p = some (.tup (N.map V.str))) ∧ (xs ≠ [] → N.length = 2)
theorem lnk_all {N : List Str} {H : Hp} {l1 l2 : List V} (h1 : LinksOk N H l1) (h2 : LinksOk N H l2) : LnkAll N H (l1 ++ l2) := by
  rcases h1 with rfl | ⟨p, rfl, hp, n1⟩ <;> rcases h2 with rfl | ⟨q, rfl, hq, n2⟩
  · exact ⟨by simp, fun v hv => by simp at hv, fun z => absurd rfl z⟩
  · exact ⟨by simp, fun v hv => by simp at hv; exact ⟨q, hv, hq⟩, fun _ => n2⟩
  · exact ⟨by simp, fun v hv => by simp at hv; exact ⟨p, hv, hp⟩, fun _ => n1⟩
  · exact ⟨by simp, fun v hv => by
      simp at hv
      rcases hv with e | e
      · exact ⟨p, e, hp⟩
      · exact ⟨q, e, hq⟩, fun _ => n1⟩
theorem walk_tkA {d : Addr} {od : Obj} {es : List Ent} : Walk (ItTk d od es) (es.map fun e => V.ref e.2.1).length (fun H => H d = some (exO d od)) (YAt (es.map fun e => V.ref e.2.1)) := by
  have w := walk_tk (d := d) (od := od) (xs := es)
  rw [List.length_map]
  exact ⟨w.goes, w.stops, fun i H v H' hi q y => by
    obtain ⟨h1, e, h2, h3⟩ := w.yields i H v H' hi q y
    exact ⟨h1, by rw [List.getElem?_map, h2, h3]; rfl⟩⟩
theorem fl_all {α : Type} {vs : List V} (h : vs.length ≤ 1) {N : List α} (hN : N.Nodup) : (vs.flatMap fun _ => N).Nodup ∧ (vs.flatMap fun _ => N).length ≤ N.length := by
  match vs, h with
  | [], _ => exact ⟨List.nodup_nil, Nat.zero_le _⟩
  | [v], _ => simp [hN]
theorem fl_len {α : Type} {vs : List V} (h : vs.length ≤ 1) (N : List α) : (vs.flatMap fun _ => N).length ≤ N.length := by
  match vs, h with
  | [], _ => exact Nat.zero_le _
  | [v], _ => simp
theorem at0 {N : List Str} {n0 : Str} (h : N.head? = some n0) : atI (N.map V.str) 0 = some (.str n0) := by
  cases N with
  | nil => cases h
  | cons n N =>
    cases h
    unfold atI ixN
    simp
theorem fm_const (n0 : Str) : ∀ vs : List V, (vs.filterMap fun _ => some (V.str n0)) = (vs.map fun _ => n0).map V.str
  | [] => rfl
  | v :: vs => by simp
theorem fl_str {N : List Str} : ∀ vs : List V, (vs.flatMap fun _ => (N.map V.str).filterMap some) = (vs.flatMap fun _ => N).map V.str
  | [] => rfl
  | v :: vs => by rw [List.flatMap_cons, List.flatMap_cons, List.map_append, fl_str vs, List.filterMap_some]
theorem kset_len {ns : List Str} (nd : ns.Nodup) : (kset (ns.map (Sum.inr : Str → Key))).length = ns.length := by
  obtain ⟨ys, e, nd2, mem, _⟩ := kset_strs ns
  have h1 := sub_len nd fun x hx => (mem x).mpr hx
  have h2 := sub_len nd2 fun x hx => (mem x).mp hx
  have h3 := congrArg List.length e
  rw [List.length_map, List.length_map] at h3
  omega
def spJL (B : Cl → Addr) : Sp := fun vs H Q _ => ∃ (a b : Addr) (N : List Str) (S : List Int) (F G : Flt), vs = [.ref a, .ref b] ∧ N ∈ Ns ∧ FltAt B N S H F a ∧ FltAt B N S H G b ∧ ∀ r ls H', Ex H H' → H' r = some (.lst ls) → LinksOk N H' ls → Q (.ref r) H'
theorem sc_joined_links : FnScope ["one", "other", "found", "names", "firsts", "pair", "name", "first"] ["one", "other"] (defScope (Df.st .djoined_links)) := ⟨rfl, rfl, rfl, by decide +kernel, rfl, by decide +kernel, by decide +kernel⟩
theorem ok_joined_links (T : Txt P K mg A B Z) : FnR P w K mg base CX0 3 (A .djoined_links) (spJL B) := by
  refine (T.d0 .djoined_links).fn sc_joined_links (fun _ _ _ _ _ _ us h => by obtain ⟨a, b, rfl⟩ := len2 h; rfl) (fun vs H Q E h => by obtain ⟨_, _, _, _, _, _, rfl, _⟩ := h; rfl) fun cdv Ar outer s H vs Q E hr h => ?_
  obtain ⟨a, b, N, S, F, G, rfl, hN, hF, hG, q⟩ := h
  have nd := sc_joined_links.nd
  have hu := hu_of hr
  have hu2 : ∀ {x : Nat}, x + 64 < cLine → x + 2 < cLine := fun h => by omega
  have hr1 : Room 1 _ := hr.mono (j := 1) (by decide)
  refine ⟨_, pss_cons (ps_set (i := 2) nd rfl (.inr rfl) (pe_tc (own := [("pair", 5)]) (g := gName 5) (tt := tYes) (hu2 hr.units) rfl nd
      (pi_sq (pe_lst (StX.pa_star (pe_pa (pv 0) (prop_any T (by decide) (ok_links T) ⟨rfl, rfl, rfl, rfl, rfl⟩) hr) (StX.pa_star (pe_pa (pv 1) (prop_any T (by decide) (ok_links T) ⟨rfl, rfl, rfl, rfl, rfl⟩) hr) pa_nil)))) (blkOk_by (N := ["one", "other", "found", "names", "firsts", "pair", "name", "first"]) (sc := defScope (Df.st .djoined_links)) (by decide +kernel))
      (fun _ _ _ _ _ => pg_name (i := 5) nd rfl (.inl rfl)) (fun _ _ _ _ _ => pts_nil) (fun _ _ _ _ _ => pv 5) (fun _ _ _ _ _ => pe_bl)))
    (pss_cons (ps_setLc2 (i := 3) (own := [("pair", 5), ("name", 6)]) (vs1 := [6]) (g := gName 5) (tt := tYes) (wi1 := iTup K (tVar 5)) (te := tVar 6) (g1 := gName 6) (tt1 := tYes) rfl nd rfl rfl (sw_true rfl rfl rfl (by decide +kernel)) (pi_tk (pv 2)) (blkOk_by (N := ["one", "other", "found", "names", "firsts", "pair", "name", "first"]) (sc := defScope (Df.st .djoined_links)) (by decide +kernel)) (by decide)
      (fun _ _ _ _ _ => pg_name (i := 5) nd rfl (.inl rfl)) (fun _ _ _ _ _ => pts_nil) (fun _ _ _ _ _ => pi_tup (pv 5)) (fun _ _ _ _ _ => pg_name (i := 6) nd rfl (.inl rfl)) (fun _ _ _ _ _ => pts_nil) (fun _ _ _ _ _ => pv 6))
    (pss_cons (ps_if (pt_cmpR op_lt (pe_callB call_lenD rfl (T.blt _ (by decide)) PySem.boot_len (pa_cons (pe_dc (own := [("name", 6)]) (g := gName 6) (tt := tYes) rfl nd (pi_sq (pv 3)) (blkOk_by (N := ["one", "other", "found", "names", "firsts", "pair", "name", "first"]) (sc := defScope (Df.st .djoined_links)) (by decide +kernel)) (fun _ _ _ _ _ => pg_name (i := 6) nd rfl (.inl rfl)) (fun _ _ _ _ _ => pts_nil) (fun _ _ _ _ _ => pv 6) (fun _ _ _ _ _ => pe_bl)) pa_nil))
        (pe_callB call_len_seq rfl (T.blt _ (by decide)) PySem.boot_len (pa_cons (pv 3) pa_nil)) (nomark _)) pss_never pss_nil)
    (pss_cons (ps_set (i := 4) nd rfl (.inl rfl) (pe_fn (ok_ascending_names T) hr1 rfl (T.gD .dascending_names rfl) (T.dk .dascending_names).kp (pa_cons
        (pe_lc (own := [("pair", 5)]) (te := tOp (rIxT K) (tVar 5) (tC (.int 0))) (g := gName 5) (tt := tYes) rfl nd (pi_tk (pv 2)) (blkOk_by (N := ["one", "other", "found", "names", "firsts", "pair", "name", "first"]) (sc := defScope (Df.st .djoined_links)) (by decide +kernel)) (fun _ _ _ _ _ => pg_name (i := 5) nd rfl (.inl rfl)) (fun _ _ _ _ _ => pts_nil) (fun _ _ _ _ _ => pe_ix ix_tup (pv 5) pe_int (fun _ _ => rfl))) pa_nil)))
    (pss_one (ps_ret (pe_lc2 (own := [("first", 7), ("pair", 5)]) (vs1 := [5]) (wi1 := iTk P w (tVar 2)) (te := tVar 5) (g := gName 7) (tt := tYes) (g1 := gName 5) (tt1 := tB (tOp rEq (tOp (rIxT K) (tVar 5) (tC (.int 0))) (tVar 7))) rfl nd (pi_sq (pv 4)) (blkOk_by (N := ["one", "other", "found", "names", "firsts", "pair", "name", "first"]) (sc := defScope (Df.st .djoined_links)) (by decide +kernel)) (by decide)
      (fun _ _ _ _ _ => pg_name (i := 7) nd rfl (.inl rfl)) (fun _ _ _ _ _ => pts_nil) (fun _ _ _ _ _ => pi_tk (pv 2)) (fun _ _ _ _ _ => pg_name (i := 5) nd rfl (.inl rfl)) (fun _ _ _ _ _ => pts_one (pt_cmpR op_eq (pe_ix ix_tup (pv 5) pe_int (fun _ _ => rfl)) (pv 7) (nomark _))) (fun _ _ _ _ _ => pv 5))))))), ?_⟩
  have hF0 := hF
  have hG0 := hG
  obtain ⟨dx, t1, t2, t3, ks, r, f1, f2, f3⟩ := hF
  obtain ⟨ex, u1, u2, u3, ks', r', g1, g2, g3⟩ := hG
  obtain ⟨l1, k1, k2⟩ := f2.ls
  obtain ⟨l2, m1, m2⟩ := g2.ls
  have X0 : LnkAll N H (l1 ++ (l2 ++ [])) := by rw [List.append_nil]; exact lnk_all k2 m2
  refine ⟨_, rfl, a, B F.cl, dx, _, rfl, f1, ⟨F.cl, rfl, flt_C F⟩, a, dx, F.cl, _, _, rfl, f1, lk_links t1 t2 t3 r, ⟨t3, l1, rfl, .inl (SqT.of k1), ?_⟩⟩
  refine ⟨_, rfl, b, B G.cl, ex, _, rfl, g1, ⟨G.cl, rfl, flt_C G⟩, b, ex, G.cl, _, _, rfl, g1, lk_links u1 u2 u3 r', ⟨u3, l2, rfl, .inl (SqT.of m1), ?_⟩⟩
  have hx2 : (l1 ++ (l2 ++ [])).length ≤ 2 := X0.1
  refine ⟨Nat.le_trans hx2 two_le, fun p6 hp6 => ⟨p6, l1 ++ (l2 ++ []), rfl, .inl (SqL.of upd_same), fun J G' wk hG' D Hn hD hn T0 => ?_⟩⟩
  generalize l1 ++ (l2 ++ []) = xs at X0 hx2 wk hD hn hG'
  obtain ⟨xl, xr, xn⟩ := X0
  have e6 : Ex H (upd H p6 (.lst xs)) := Ex.new hp6
  have eN : Ex (upd H p6 (.lst xs)) Hn := fun c o h => by rw [hn c (fun z => by rw [z, hD] at h; cases h)]; exact h
  refine tc_it wk (fun i H1 => Ex (upd H p6 (.lst xs)) H1 ∧ TD P w H1 D (enL N (xs.take i))) ⟨eN, by rw [List.take_zero]; exact T0⟩ (fun i H1 _ q => hG' _ q.1) (fun i x H1 H2 hi q y => ?_) fun H1 q1 => ?_
  · obtain ⟨rfl, hx⟩ := y
    obtain ⟨p, rfl, hp⟩ := xr x (List.mem_of_getElem? hx)
    have hp1 := q.1 _ _ (e6 _ _ hp)
    refine ⟨rfl, _, rfl, p, lkT N, _, rfl, q.2, by rw [lkT_V]; exact hp1, ?_, fun H6 n6 => ?_⟩
    · have : (enL N (xs.take i)).length ≤ 1 := by
        unfold enL; split <;> simp
      rw [sizeLine_eq]; omega
    · have t6 := n6.td q.2 (by rw [lkT_V]; exact hp1)
      rw [tst_en (fun v hv => let ⟨p, e, _⟩ := xr v (List.mem_of_mem_take hv); ⟨p, e⟩)] at t6
      refine ⟨fun c o h => ?_, by rw [List.take_succ, hx]; exact t6⟩
      rw [n6.1 c (fun z => by rw [z, hD] at h; cases h)]
      exact q.1 _ _ h
  rw [List.take_length] at q1
  obtain ⟨e1, T1⟩ := q1
  have e16 : Ex H H1 := e6.trans e1
  -- the links, one at most
  have V5 : ∃ vs5 : List V, (enL N xs).map (fun e => V.ref e.2.1) = vs5 ∧ vs5.length ≤ 1 ∧ ∀ v, v ∈ vs5 → ∃ p, v = .ref p ∧ H p = some (.tup (N.map V.str)) ∧ N.length = 2 := by
    refine ⟨_, rfl, ?_, fun v hv => ?_⟩
    · rw [List.length_map]; unfold enL; split <;> simp
    · cases xs with
      | nil => cases hv
      | cons x xs =>
        obtain ⟨p, rfl, hp⟩ := xr x (List.mem_cons_self ..)
        rw [show v = .ref p by simpa [enL] using hv]
        exact ⟨p, rfl, hp, xn (by simp)⟩
  obtain ⟨vs5, hv5, v1, vr⟩ := V5
  obtain ⟨od, hod, t⟩ := T1.at_
  have wk5 : Walk (ItTk D od (enL N xs)) vs5.length (fun H => H D = some (exO D od)) (YAt vs5) := by
    have := walk_tkA (d := D) (od := od) (es := enL N xs)
    rwa [hv5] at this
  have hND := Ns_nd hN
  have hNl : N.length ≤ 2 := by rcases Ns_len hN with e | e <;> omega
  obtain ⟨fn1, fn2⟩ := fl_all v1 hND
  refine ⟨_, rfl, D, od, _, rfl, hod, t, fun D2 hD2 => lc2_at (YAt vs5) wk5 (fun _ _ _ _ h => h) rfl (fun H' e => e _ _ hod) hD2 (fun _ => N.map V.str) (fun _ v => some v) (fun i => ?_) (fun x H2 hx e2 Kn Kc kc => ?_) fun H2 e2 h2 => ?_⟩
  · have := fl_len (vs := vs5.take i) (Nat.le_trans (List.length_take_le' ..) v1) (N.map V.str)
    rw [List.length_map] at this
    omega
  · obtain ⟨p, rfl, hp, _⟩ := vr x hx
    exact ⟨rfl, _, rfl, p, rfl, ⟨_, SqT.of (e2 _ _ (e16 _ _ hp))⟩, kc _ _ _ _ _ (Ex.refl _) walk_tup (fun _ _ _ _ h => h) (fun H' e => SqT.of (e _ _ (e16 _ _ hp))) fun y H5 hy e5 KK KN k1 k2 => ⟨rfl, _, rfl, k1 _ _ (Ex.refl _) rfl⟩⟩
  rw [fl_str] at h2
  generalize hns : (vs5.flatMap fun _ => N) = ns at h2 fn1 fn2
  refine ⟨_, rfl, D2, ns.map V.str, rfl, .inl (SqL.of h2), fun J3 G3 wk3 hG3 D3 hD3 => dc_true wk3 hG3 hD3 (by rw [List.length_map]; omega) kS (fun x hx => ?_) (fun _ => rfl) (fun _ => rfl) fun H3 e3 hD3' => ?_⟩
  · obtain ⟨n, _, rfl⟩ := List.mem_map.mp hx
    rfl
  rw [kS_str] at hD3'
  refine ⟨D3, _, rfl, hD3', ?_⟩
  refine ⟨_, rfl, D2, ns.map V.str, rfl, .inl (SqL.of (e3 _ _ h2)), ?_⟩
  refine ⟨_, _, rfl, rfl, false, congrArg V.bl (decide_eq_false (by rw [kset_len fn1, List.length_map]; omega)), iteF ?_⟩
  have e23 := e2.trans e3
  have e13 := e16.trans e23
  -- the first names
  obtain ⟨n0, hn0⟩ : ∃ n0, ∀ v, v ∈ vs5 → N.head? = some n0 := by
    cases hN0 : N.head? with
    | some n => exact ⟨n, fun _ _ => rfl⟩
    | none =>
      refine ⟨"", fun v hv => ?_⟩
      obtain ⟨_, _, _, z⟩ := vr v hv
      cases N with
      | nil => cases z
      | cons n N => cases hN0
  refine ⟨_, rfl, D, od, _, rfl, e23 _ _ hod, t, fun D4 hD4 => lc_at wk5 (fun H' e => (e23.trans e) _ _ hod) hD4 (by omega) (fun _ => some (.str n0)) (fun x H5 hx e5 KK KN k1 k2 => ?_) fun H4 e4 h4 => ?_⟩
  · obtain ⟨p, rfl, hp, _⟩ := vr x hx
    exact ⟨rfl, _, rfl, p, _, 0, _, rfl, rfl, SqT.of (e5 _ _ (e13 _ _ hp)), at0 (hn0 _ hx), k1 _ _ (Ex.refl _) rfl⟩
  rw [fm_const] at h4
  refine ⟨D4, _, rfl, .inl (SqL.of h4), by rw [List.length_map]; omega, fun p5 ys H5 e5 h5 nd5 mem5 srt5 => ?_⟩
  have e35 := e4.trans e5
  have e15 := e13.trans e35
  have yl : ys.length ≤ 1 := by
    have := sub_len (ys := [n0]) nd5 fun y hy => by
      obtain ⟨v, _, e⟩ := List.mem_map.mp ((mem5 y).mp hy)
      exact List.mem_singleton.mpr e.symm
    exact this
  have e25 := e23.trans e35
  refine ⟨_, rfl, p5, ys.map V.str, rfl, .inl (SqL.of h5), fun J6 G6 wk6 hG6 D6 hD6 => lc2_at (YAt _) wk6 (fun _ _ _ _ h => h) rfl hG6 hD6 (fun _ => vs5) (fun f v => if V.str n0 = f then some v else none) (fun i => ?_) (fun x H6 hx e6 Kn Kc kc => ?_) fun H6 e6 h6 => ?_⟩
  · have := fl_len (vs := (ys.map V.str).take i) (Nat.le_trans (List.length_take_le' ..) (by rw [List.length_map]; exact yl)) vs5
    omega
  · obtain ⟨f, hf, rfl⟩ := List.mem_map.mp hx
    refine ⟨rfl, _, rfl, D, od, _, rfl, e6 _ _ (e25 _ _ hod), t, kc _ _ _ _ _ (Ex.refl _) wk5 (fun _ _ _ _ h => h) (fun H' e => e _ _ (e25 _ _ hod)) fun y H7 hy e7 KK KN k1 k2 => ?_⟩
    obtain ⟨p, rfl, hp, _⟩ := vr y hy
    refine ⟨rfl, _, rfl, p, _, 0, _, rfl, rfl, SqT.of (e7 _ _ (e15 _ _ hp)), at0 (hn0 _ hy), _, rfl, rfl, _, rfl, ?_⟩
    by_cases c : V.str n0 = V.str f
    · rw [decide_eq_true c]
      exact iteT ⟨_, rfl, k1 _ _ (Ex.refl _) (if_pos c)⟩
    · rw [decide_eq_false c]
      exact iteF (k2 _ (Ex.refl _) (if_neg c))
  refine q D6 _ H6 (e15.trans e6) h6 ?_
  match vs5, v1, vr, mem5 with
  | [], _, _, mem5 =>
    refine .inl ?_
    have : ys = [] := List.eq_nil_iff_forall_not_mem.mpr fun y hy => nomatch (mem5 y).mp hy
    rw [this]; rfl
  | [v], _, vr, mem5 =>
    obtain ⟨p, rfl, hp, h2⟩ := vr v (List.mem_singleton.mpr rfl)
    have hy : ys = [n0] := by
      have hm : n0 ∈ ys := (mem5 n0).mpr (by simp)
      match ys, yl, hm with
      | [y], _, hm => rw [List.mem_singleton.mp hm]
    rw [hy]
    exact .inr ⟨p, by simp, e6 _ _ (e15 _ _ hp), h2⟩
end
end Hs
set_option Elab.async false
set_option linter.all false
set_option maxRecDepth 100000
set_option maxHeartbeats 4000000
/-! Joined.__init__. -/
namespace Hs
open PySem PySem.Spec PyProof.Rows L2 NdefX
section
variable {P : Program} {w : World} {K : PySem.W.Frag} {mg : Str → Option Value} {base : Heap} {A : Df → Addr} {B Z : Cl → Addr}
def spJInit (B : Cl → Addr) (n : Nat) : Sp := fun vs H Q _ => ∃ (p a b dx : Addr) (cl : Cl) (N : List Str) (S : List Int) (F G : Flt), vs = [.ref p, .ref a, .ref b] ∧ H p = some (.ins (B cl) dx []) ∧ supOf cl .cJoined = some .dFilter_init ∧ N ∈ Ns ∧ S.length ≤ 4 ∧ FltAt B N S H F a ∧ FltAt B N S H G b ∧ F.ht ≤ n ∧ G.ht ≤ n ∧ F.leaves + G.leaves ≤ 8 ∧
  ∀ H' t1 t2 t3 ks, ExB p H H' → H' p = some (.ins (B cl) dx (hdr t1 t2 t3 ++ r2 (.ref a) (.ref b))) → Hd N S H' t1 t2 t3 ks → FltAt B N S H' F a → FltAt B N S H' G b → Q .non H'
theorem sc_Ji : NScope ["self", "one", "other", "__class__", "constants", "number"] ["self", "one", "other"] ["__class__"] (defScope (Df.st .dJoined_init)) := nscope_by (by decide +kernel)
theorem ok_Ji (T : Txt P K mg A B Z) (n : Nat) : FnR P w K mg base CX0 (n + 4) (A .dJoined_init) (spJInit B n) := by
  have hsup : Df.dJoined_init.sup = some .cJoined := rfl
  refine (T.d1 .dJoined_init hsup).fnSup (ps := ["self", "one", "other"]) sc_Ji (T.cellOk _ hsup) (fun _ _ _ _ _ _ us h => by obtain ⟨a, b, c, rfl⟩ := len3 h; rfl) (fun vs H Q E h => by obtain ⟨_, _, _, _, _, _, _, _, _, rfl, _⟩ := h; rfl) fun c0 Ar outer s H vs Q E hf hr h => ?_
  obtain ⟨p, a, b, dx, cl, N, S, F, G, rfl, hp, hs, hN, sl, hF, hG, htF, htG, hl, q⟩ := h
  have nd := sc_Ji.nd
  have M := T.supM .dJoined_init hsup hf ⟨_, rfl, by decide +kernel⟩
  have hr2 : Room 2 _ := hr.mono (j := 2) (by omega)
  have hr3 : Room 3 _ := hr.mono (j := 3) (by omega)
  have hrn : Room (n + 2 + 1) _ := hr
  obtain ⟨t1, t2, t3, t4, t5, t6, t7, m1, m2, m3, m4, m5, m6, m7⟩ := T.gMost
  refine ⟨_, (psa_cons (ps_if (pt_cmpR op_gt (pe_op op_add (pe_callB (call_lenOwn (len_any T n) hrn) rfl (T.blt _ (by decide)) PySem.boot_len (pa_cons (pv 1) pa_nil)) (pe_callB (call_lenOwn (len_any T n) hrn) rfl (T.blt _ (by decide)) PySem.boot_len (pa_cons (pv 2) pa_nil))) (pe_glob (v := .int 8) rfl m2 ⟨_, rfl⟩) (nomark _)) pss_never pss_nil)
    <| psa_cons (ps_setDc (i := 4) (own := [("number", 5)]) (g := gName 5) (tt := tYes) rfl nd rfl rfl (swd_true rfl rfl rfl (by decide +kernel))
      (pi_sq (pe_lst (StX.pa_star (pe_pa (pv 1) (prop_any T (by decide) (ok_cons T) ⟨rfl, rfl, rfl, rfl, rfl⟩) hr2) (StX.pa_star (pe_pa (pv 2) (prop_any T (by decide) (ok_cons T) ⟨rfl, rfl, rfl, rfl, rfl⟩) hr2) pa_nil)))) (blkOk_by (N := ["self", "one", "other", "__class__", "constants", "number"]) (sc := defScope (Df.st .dJoined_init)) (by decide +kernel))
      (fun _ _ _ _ _ => pg_name (i := 5) nd rfl (.inl rfl)) (fun _ _ _ _ _ => pts_nil) (fun _ _ _ _ _ => pv 5) (fun _ _ _ _ _ => pe_bl))
    <| psa_cons (ps_if (pt_cmpR op_gt (pe_callB call_lenD rfl (T.blt _ (by decide)) PySem.boot_len (pa_cons (pv 4) pa_nil)) (pe_glob (v := .int 4) rfl m3 ⟨_, rfl⟩) (nomark _)) pss_never pss_nil)
    <| psa_super (i := 0) M rfl rfl rfl hr2 rfl (by decide) rfl rfl rfl (pa_cons (pe_lst (StX.pa_star (pe_pa (pv 1) (prop_any T (by decide) (ok_cols T) ⟨rfl, rfl, rfl, rfl, rfl⟩) hr2) (StX.pa_star (pe_pa (pv 2) (prop_any T (by decide) (ok_cols T) ⟨rfl, rfl, rfl, rfl, rfl⟩) hr2) pa_nil)))
        (pa_cons (pe_callTy (call_list_dK rfl) rfl (T.blt _ (by decide)) (by decide +kernel) (pa_cons (pv 4) pa_nil)) (pa_cons (pe_fn (ok_joined_links T) hr3 rfl (T.gD .djoined_links rfl) (T.dk .djoined_links).kp (pa_cons (pv 1) (pa_cons (pv 2) pa_nil))) pa_nil)))
    (psa_of (pss_cons (ps_fld (pv 0) (pv 1) rfl) (pss_one (ps_fld (pv 0) (pv 2) rfl))))), ?_⟩
  have hF0 := hF
  have hG0 := hG
  obtain ⟨ex, u1, u2, u3, ks1, r, f1, f2, f3⟩ := hF
  obtain ⟨ey, v1, v2, v3, ks2, r', g1, g2, g3⟩ := hG
  obtain ⟨cs1, c1, d1, i1⟩ := f2.cs
  obtain ⟨cs2, c2, d2, i2⟩ := g2.cs
  have gF : GoodF B fltC (B F.cl) := ⟨F.cl, rfl, flt_C F⟩
  have gG : GoodF B fltC (B G.cl) := ⟨G.cl, rfl, flt_C G⟩
  refine ⟨_, rfl, a, _, ex, _, rfl, f1, ⟨_, rfl, flt_cl F⟩, F, a, _, N, S, rfl, hF0, htF, rfl, rfl, by omega, fun H1 e1 => ⟨F.leaves, rfl, by omega, ?_⟩⟩
  refine ⟨_, rfl, b, _, ey, _, rfl, e1 _ _ g1, ⟨_, rfl, flt_cl G⟩, G, b, _, N, S, rfl, hG0.mono e1, htG, rfl, rfl, by omega, fun H2 e2 => ⟨G.leaves, rfl, by omega, ?_⟩⟩
  refine ⟨_, _, rfl, rfl, ?_⟩
  refine ⟨_, _, rfl, rfl, false, congrArg V.bl (decide_eq_false (by omega)), iteF ?_⟩
  have E2 := e1.trans e2
  refine ⟨_, rfl, a, _, ex, _, rfl, E2 _ _ f1, gF, a, ex, F.cl, _, _, rfl, E2 _ _ f1, lk_cons u1 u2 u3 r, ⟨u2, ks1.map V.int, rfl, .inl (SqT.of (E2 _ _ f2.kt)), ?_⟩⟩
  refine ⟨_, rfl, b, _, ey, _, rfl, E2 _ _ g1, gG, b, ey, G.cl, _, _, rfl, E2 _ _ g1, lk_cons v1 v2 v3 r', ⟨v2, ks2.map V.int, rfl, .inl (SqT.of (E2 _ _ g2.kt)), ?_⟩⟩
  have kl1 : ks1.length ≤ 4 := Nat.le_trans (sub_len f2.kn f2.ks) sl
  have kl2 : ks2.length ≤ 4 := Nat.le_trans (sub_len g2.kn g2.ks) sl
  have eks : ks1.map V.int ++ (ks2.map V.int ++ []) = (ks1 ++ ks2).map V.int := by rw [List.append_nil, List.map_append]
  refine ⟨by rw [eks, List.length_map, List.length_append, sizeLine_eq]; omega, fun p3 hp3 => ⟨p3, _, rfl, .inl (SqL.of upd_same), fun J3 G3 wk3 hG3 D hD => dc_true wk3 hG3 hD (by rw [eks, List.length_map, List.length_append]; omega) kS (fun x hx => ?_) (fun _ => rfl) (fun _ => rfl) fun H4 e4 hD4 => ?_⟩⟩
  · rw [eks] at hx
    obtain ⟨n, _, rfl⟩ := List.mem_map.mp hx
    rfl
  rw [eks, kS_int] at hD4
  have E4 := (E2.trans (Ex.new hp3)).trans e4
  obtain ⟨zs, ez, nz, mz, lz⟩ := kset_ints (ks1 ++ ks2)
  have zS : ∀ z, z ∈ zs → z ∈ S := fun z hz => (List.mem_append.mp ((mz z).mp hz)).elim (f2.ks z) (g2.ks z)
  have zl : zs.length ≤ 4 := Nat.le_trans (sub_len nz zS) sl
  have kz : (kset ((ks1 ++ ks2).map (Sum.inl : Int → Key))).length = zs.length := by
    have := congrArg List.length ez
    rwa [List.length_map, List.length_map] at this
  refine ⟨_, rfl, D, _, rfl, hD4, _, _, rfl, rfl, false, congrArg V.bl (decide_eq_false (by rw [kz]; omega)), iteF ?_⟩
  refine ⟨p, B cl, dx, [], A .dFilter_init, spFInit K B, rfl, E4 _ _ hp, T.supC hs, ok_Filter_init T, fun q5 hq5 => ?_⟩
  have E5 := E4.trans (Ex.new (o := .met (A .dFilter_init) p) hq5)
  refine ⟨_, rfl, a, _, ex, _, rfl, E5 _ _ f1, gF, a, ex, F.cl, _, _, rfl, E5 _ _ f1, lk_cols u1 u2 u3 r, ⟨u1, cs1.map V.str, rfl, .inl (SqT.of (E5 _ _ c1)), ?_⟩⟩
  refine ⟨_, rfl, b, _, ey, _, rfl, E5 _ _ g1, gG, b, ey, G.cl, _, _, rfl, E5 _ _ g1, lk_cols v1 v2 v3 r', ⟨v1, cs2.map V.str, rfl, .inl (SqT.of (E5 _ _ c2)), ?_⟩⟩
  have ecs : cs1.map V.str ++ (cs2.map V.str ++ []) = (cs1 ++ cs2).map V.str := by rw [List.append_nil, List.map_append]
  have cl1 := sub_len d1 i1
  have cl2 := sub_len d2 i2
  have hNl : N.length ≤ 2 := by rcases Ns_len hN with e | e <;> omega
  have csl : (cs1 ++ cs2).length < 64 := by rw [List.length_append]; omega
  refine ⟨by rw [ecs, List.length_map, sizeLine_eq]; omega, fun p6 hp6 => ?_⟩
  rw [ecs]
  have E6 := E5.trans (Ex.new (o := .lst ((cs1 ++ cs2).map V.str)) hp6)
  have ekv : (kset ((ks1 ++ ks2).map (Sum.inl : Int → Key))).map (fun kv => kV kv.1) = zs.map V.int := by
    have := congrArg (List.map kV) ez
    rw [List.map_map, List.map_map] at this
    exact this
  refine ⟨_, rfl, D, _, rfl, ((Ex.new hq5).trans (Ex.new hp6)) _ _ hD4, fun p7 hp7 => ?_⟩
  rw [ekv]
  have E7 := E6.trans (Ex.new (o := .lst (zs.map V.int)) hp7)
  refine ⟨_, rfl, _, rfl, a, b, N, S, F, G, rfl, hN, hF0.mono E7, hG0.mono E7, fun r8 ls H8 e8 h8 l8 => ?_⟩
  have E8 := E7.trans e8
  refine ⟨(((Ex.new hp6).trans (Ex.new hp7)).trans e8) _ _ upd_same, p, p6, p7, r8, dx, cl, N, cs1 ++ cs2, S, zs, ls, rfl, E8 _ _ hp, .inl (SqL.of (((Ex.new hp7).trans e8) _ _ upd_same)), csl, fun x hx => (List.mem_append.mp hx).elim (i1 x) (i2 x), .inl (SqL.of (e8 _ _ upd_same)), by omega, zS, .inl (SqL.of h8), l8, fun H' w1 w2 w3 ks' eb g hd mem => ?_⟩
  have hb := (ex_b (p := p) E8).trans eb
  have hcl : Cls K (B cl) := T.cls cl
  have hb1 := hb.put (o := .ins (B cl) dx (putF "one" (.ref a) (hdr w1 w2 w3)))
  have hb2 := hb1.put (o := .ins (B cl) dx (putF "other" (.ref b) (putF "one" (.ref a) (hdr w1 w2 w3))))
  refine ⟨_, rfl, _, rfl, p, B cl, dx, _, rfl, g, hcl, T.no cl _ (by decide), (by show 3 < 1000; decide), ?_⟩
  refine ⟨_, rfl, _, rfl, p, B cl, dx, _, rfl, upd_same, hcl, T.no cl _ (by decide), (by show 4 < 1000; decide), ?_⟩
  exact q _ w1 w2 w3 ks' hb2 (by rw [upd_same]; rfl) (hd.exb (ExB.refl p H').put.put ⟨_, _, _, g⟩) (hF0.exb hb2 hp) (hG0.exb hb2 hp)
end
end Hs
set_option Elab.async false
set_option linter.all false
set_option maxRecDepth 100000
set_option maxHeartbeats 4000000
/-! Made objects; Change; compared, joined, needed. -/
namespace Hs
open PySem PySem.Spec PyProof.Rows L2
section
variable {P : Program} {w : World} {K : PySem.W.Frag} {mg : Str → Option Value} {base : Heap} {A : Df → Addr} {B Z : Cl → Addr}
theorem Txt.mkC (T : Txt P K mg A B Z) (c : Cl) {d : Df} (h : look c .minit = some d) : Mk K (B c) (A d) := ⟨(T.mks c).1, T.fnd c .minit d h, T.isF d, (T.mks c).2⟩
/-- the heap behind a made instance -/
theorem mk_ex {H H' : Hp} {x dx : Addr} {C : Addr} (hx : H x = none) (hd : H dx = none) (e : ExB x (upd (upd H dx (.own x)) x (.ins C dx [])) H') : Ex H H' := fun a o h => by
  have h1 : a ≠ x := ne_of_none h hx
  have h2 : a ≠ dx := ne_of_none h hd
  exact e a o h1 (by rw [upd_ne h1, upd_ne h2]; exact h)
theorem mk_pre {H : Hp} {x dx : Addr} {C : Addr} (hx : H x = none) (hd : H dx = none) : Ex H (upd (upd H dx (.own x)) x (.ins C dx [])) := mk_ex (C := C) hx hd (ExB.refl _ _)
/-! ### Change -/
def chF (d : Addr) : List (Str × V) := [("new_names", .ref d), ("by", .int 0), ("is_turned", .bl true)]
def ChAt (B : Cl → Addr) (H : Hp) (c : Addr) : Prop := ∃ dx d, H c = some (.ins (B .cChange) dx (chF d)) ∧ H d = some (.dK [])
theorem ChAt.mono {H H' : Hp} {c : Addr} (h : ChAt B H c) (e : Ex H H') : ChAt B H' c := by
  obtain ⟨dx, d, h1, h2⟩ := h
  exact ⟨dx, d, e _ _ h1, e _ _ h2⟩
def spChI (B : Cl → Addr) : Sp := fun vs H Q _ => ∃ (c d dx : Addr), vs = [.ref c, .ref d, .int 0, .bl true] ∧ H c = some (.ins (B .cChange) dx []) ∧ H d = some (.dK []) ∧ ∀ H', ExB c H H' → ChAt B H' c → Q .non H'
theorem sc_Chi : FnScope ["self", "names", "by", "is_turned"] ["self", "names", "by", "is_turned"] (defScope (Df.st .dChange_init)) := ⟨rfl, rfl, rfl, by decide +kernel, rfl, by decide +kernel, by decide +kernel⟩
theorem ok_Chi (T : Txt P K mg A B Z) : FnR P w K mg base CX0 1 (A .dChange_init) (spChI B) := by
  refine (T.d0 .dChange_init).fn sc_Chi (fun _ _ _ _ _ _ us h => by obtain ⟨a, b, c, d, rfl⟩ := len4 h; rfl) (fun vs H Q E h => by obtain ⟨_, _, _, rfl, _⟩ := h; rfl) fun cdv Ar outer s H vs Q E hr h => ?_
  obtain ⟨c, d, dx, rfl, hc, hd, q⟩ := h
  refine ⟨_, pss_cons (ps_fld (pv 0) (pv 1) rfl) (pss_cons (ps_fld (pv 0) (pv 2) rfl) (pss_one (ps_fld (pv 0) (pv 3) rfl))), ?_⟩
  have hcl : Cls K (B .cChange) := T.cls _
  refine ⟨_, rfl, _, rfl, c, _, dx, _, rfl, hc, hcl, T.no _ _ (by decide), (by show 0 < 1000; decide), ?_⟩
  refine ⟨_, rfl, _, rfl, c, _, dx, _, rfl, upd_same, hcl, T.no _ _ (by decide), (by show 1 < 1000; decide), ?_⟩
  refine ⟨_, rfl, _, rfl, c, _, dx, _, rfl, upd_same, hcl, T.no _ _ (by decide), (by show 2 < 1000; decide), ?_⟩
  have ne : d ≠ c := fun z => by rw [z, hc] at hd; cases hd
  exact q _ (ExB.refl c H).put.put.put ⟨dx, d, by rw [upd_same]; rfl, by rw [upd_ne ne, upd_ne ne, upd_ne ne]; exact hd⟩
/-- change.side -/
def spChS (B : Cl → Addr) : Sp := fun vs H Q _ => ∃ (c : Addr) (sd : Side), vs = [.ref c, sv sd] ∧ ChAt B H c ∧ Q (sv sd.neg) H
theorem sc_Chs : FnScope ["self", "side"] ["self", "side"] (defScope (Df.st .dChange_side)) := ⟨rfl, rfl, rfl, by decide +kernel, rfl, by decide +kernel, by decide +kernel⟩
theorem ok_Chs (T : Txt P K mg A B Z) : FnR P w K mg base CX0 1 (A .dChange_side) (spChS B) := by
  refine (T.d0 .dChange_side).fn sc_Chs (fun _ _ _ _ _ _ us h => by obtain ⟨a, b, rfl⟩ := len2 h; rfl) (fun vs H Q E h => by obtain ⟨_, _, rfl, _⟩ := h; rfl) fun cdv Ar outer s H vs Q E hr h => ?_
  obtain ⟨c, sd, rfl, ⟨dx, d, hc, hd⟩, q⟩ := h
  refine ⟨_, pss_cons (ps_if (pt_val (pe_isT (n := "str") (pv 1) rfl (T.blt _ (by decide)) rfl (T.blt _ (by decide)) (by decide +kernel))) (pss_one (ps_ret (pe_dget2 (hu_of hr) (pe_fld (pv 0) rfl) (pv 1) (pv 1) ⟨rfl, rfl, rfl, rfl⟩))) pss_nil)
    (pss_one (ps_ret (pe_op op_add (pe_ifExp (pt_val (pe_fld (pv 0) rfl)) (pe_op op_sub pe_int (pv 1)) (pv 1)) (pe_fld (pv 0) rfl)))), ?_⟩
  have hcl : Cls K (B .cChange) := T.cls _
  cases sd with
  | col a =>
    refine ⟨_, rfl, _, true, .base (.str _), k_str_str, true, rfl, iteT ?_⟩
    refine ⟨_, rfl, c, _, dx, _, _, rfl, hc, hcl, T.no _ _ (by decide), rfl, ?_⟩
    exact ⟨d, rfl, .inl ⟨_, .inl hd⟩, _, rfl, _, rfl, none, .inl ⟨_, Sum.inr a, .inl hd, rfl, rfl⟩, q⟩
  | num i =>
    refine ⟨_, rfl, _, false, .base (.int _), k_int_str, false, rfl, iteF ?_⟩
    refine ⟨_, rfl, c, _, dx, _, _, rfl, hc, hcl, T.no _ _ (by decide), rfl, true, rfl, iteT ?_⟩
    refine ⟨_, rfl, 0, i, rfl, rfl, ?_⟩
    refine ⟨_, rfl, c, _, dx, _, _, rfl, hc, hcl, T.no _ _ (by decide), rfl, ?_⟩
    refine ⟨_, _, rfl, rfl, ?_⟩
    have e : (0 - i) + 0 = 0 - i := by omega
    show Q (.int ((0 - i) + 0)) H
    rw [e]
    exact q
/-! ### compared -/
def opW : Cop → Str
  | .lt => "<"
  | .le => "<="
  | .eq => "="
def spCmp (B : Cl → Addr) : Sp := fun vs H Q _ => ∃ (o : Cop) (a b : Side) (N : List Str) (S : List Int), vs = [.str (opW o), sv a, sv b] ∧ N ∈ Ns ∧ SideOk N S a ∧ SideOk N S b ∧ ((∃ c, a = .col c) ∨ ∃ c, b = .col c) ∧ ∀ x H', Ex H H' → FltAt B N S H' (.cmp o a b) x → Q (.ref x) H'
theorem sc_compared : FnScope ["word", "one", "other"] ["word", "one", "other"] (defScope (Df.st .dcompared)) := ⟨rfl, rfl, rfl, by decide +kernel, rfl, by decide +kernel, by decide +kernel⟩
theorem ok_compared (T : Txt P K mg A B Z) : FnR P w K mg base CX0 5 (A .dcompared) (spCmp B) := by
  refine (T.d0 .dcompared).fn sc_compared (fun _ _ _ _ _ _ us h => by obtain ⟨a, b, c, rfl⟩ := len3 h; rfl) (fun vs H Q E h => by obtain ⟨_, _, _, _, _, rfl, _⟩ := h; rfl) fun cdv Ar outer s H vs Q E hr h => ?_
  obtain ⟨o, a, b, N, S, rfl, hN, ha, hb, hab, q⟩ := h
  have mL := T.mkC .cLess (d := .dCompared_init) rfl
  have mM := T.mkC .cAtMost (d := .dCompared_init) rfl
  have mS := T.mkC .cSame (d := .dCompared_init) rfl
  refine ⟨_, pss_cons (ps_if (pt_cmpR op_eq (pv 0) pe_str (nomark _)) (pss_one (ps_ret (pe_mk mL (ok_Ci T) hr rfl (T.gC .cLess) (pa_cons (pv 1) (pa_cons (pv 2) pa_nil))))) pss_nil)
    (pss_one (ps_ret (pe_ifExp (pt_cmpR op_eq (pv 0) pe_str (nomark _)) (pe_mk mM (ok_Ci T) hr rfl (T.gC .cAtMost) (pa_cons (pv 1) (pa_cons (pv 2) pa_nil))) (pe_mk mS (ok_Ci T) hr rfl (T.gC .cSame) (pa_cons (pv 1) (pa_cons (pv 2) pa_nil)))))), ?_⟩
  have fin : ∀ x dx, H x = none → H dx = none → dx ≠ x → spCInit B (.ref x :: [sv a, sv b]) (upd (upd H dx (.own x)) x (.ins (B (opC o)) dx [])) (fun v H2 => v = .non ∧ Q (.ref x) H2) E0 := fun x dx hx hd hne =>
    ⟨x, dx, o, a, b, N, S, rfl, upd_same, hN, ha, hb, hab, fun H' eb hF => ⟨rfl, q x H' (mk_ex hx hd eb) hF⟩⟩
  cases o with
  | lt => exact ⟨_, rfl, rfl, true, by decide +kernel, iteT ⟨_, rfl, _, rfl, fin⟩⟩
  | le => exact ⟨_, rfl, rfl, false, by decide +kernel, iteF ⟨_, rfl, rfl, true, by decide +kernel, iteT ⟨_, rfl, _, rfl, fin⟩⟩⟩
  | eq => exact ⟨_, rfl, rfl, false, by decide +kernel, iteF ⟨_, rfl, rfl, false, by decide +kernel, iteF ⟨_, rfl, _, rfl, fin⟩⟩⟩
/-! ### joined -/
def joW : Bool → Str
  | true => "and"
  | false => "or"
def joF : Bool → Flt → Flt → Flt
  | true, F, G => .both F G
  | false, F, G => .either F G
def spJoi (B : Cl → Addr) (n : Nat) : Sp := fun vs H Q _ => ∃ (k : Bool) (a b : Addr) (N : List Str) (S : List Int) (F G : Flt), vs = [.str (joW k), .ref a, .ref b] ∧ N ∈ Ns ∧ S.length ≤ 4 ∧ FltAt B N S H F a ∧ FltAt B N S H G b ∧ F.ht ≤ n ∧ G.ht ≤ n ∧ F.leaves + G.leaves ≤ 8 ∧ ∀ x H', Ex H H' → FltAt B N S H' (joF k F G) x → Q (.ref x) H'
theorem mk_joi {n : Nat} {k : Bool} {a b : Addr} {N : List Str} {S : List Int} {F G : Flt} {H : Hp} {Q : VK} (hN : N ∈ Ns) (sl : S.length ≤ 4) (hF : FltAt B N S H F a) (hG : FltAt B N S H G b) (h1 : F.ht ≤ n) (h2 : G.ht ≤ n) (hl : F.leaves + G.leaves ≤ 8)
    (q : ∀ x H', Ex H H' → FltAt B N S H' (joF k F G) x → Q (.ref x) H') (x dx : Addr) (hx : H x = none) (hd : H dx = none) : spJInit B n (.ref x :: [.ref a, .ref b]) (upd (upd H dx (.own x)) x (.ins (B (joF k F G).cl) dx [])) (fun v H2 => v = .non ∧ Q (.ref x) H2) E0 := by
  have pre := mk_pre (C := B (joF k F G).cl) hx hd
  refine ⟨x, a, b, dx, (joF k F G).cl, N, S, F, G, rfl, upd_same, by cases k <;> rfl, hN, sl, hF.mono pre, hG.mono pre, h1, h2, hl, fun H' t1 t2 t3 ks eb g hh hF' hG' => ⟨rfl, q x H' (mk_ex hx hd eb) ?_⟩⟩
  cases k with
  | true => exact FltAt.mkBoth g hh hF' hG'
  | false => exact FltAt.mkEither g hh hF' hG'
theorem sc_joined : FnScope ["word", "one", "other"] ["word", "one", "other"] (defScope (Df.st .djoined)) := ⟨rfl, rfl, rfl, by decide +kernel, rfl, by decide +kernel, by decide +kernel⟩
theorem ok_joined (T : Txt P K mg A B Z) (n : Nat) : FnR P w K mg base CX0 (n + 6) (A .djoined) (spJoi B n) := by
  refine (T.d0 .djoined).fn sc_joined (fun _ _ _ _ _ _ us h => by obtain ⟨a, b, c, rfl⟩ := len3 h; rfl) (fun vs H Q E h => by obtain ⟨_, _, _, _, _, _, _, rfl, _⟩ := h; rfl) fun cdv Ar outer s H vs Q E hr h => ?_
  obtain ⟨k, a, b, N, S, F, G, rfl, hN, sl, hF, hG, h1, h2, hl, q⟩ := h
  have mB := T.mkC .cBoth (d := .dJoined_init) rfl
  have mE := T.mkC .cEither (d := .dJoined_init) rfl
  have hrn : Room (n + 4 + 1) _ := hr
  refine ⟨_, pss_one (ps_ret (pe_ifExp (pt_cmpR op_eq (pv 0) pe_str (nomark _)) (pe_mk mB (ok_Ji T n) hrn rfl (T.gC .cBoth) (pa_cons (pv 1) (pa_cons (pv 2) pa_nil))) (pe_mk mE (ok_Ji T n) hrn rfl (T.gC .cEither) (pa_cons (pv 1) (pa_cons (pv 2) pa_nil))))), ?_⟩
  cases k with
  | true => exact ⟨_, rfl, rfl, true, by decide +kernel, iteT ⟨_, rfl, _, rfl, fun x dx hx hd _ => mk_joi (k := true) hN sl hF hG h1 h2 hl q x dx hx hd⟩⟩
  | false => exact ⟨_, rfl, rfl, false, by decide +kernel, iteF ⟨_, rfl, _, rfl, fun x dx hx hd _ => mk_joi (k := false) hN sl hF hG h1 h2 hl q x dx hx hd⟩⟩
/-! ### needed -/
def spNeeded (B : Cl → Addr) : Sp := fun vs H Q _ => ∃ (p dx : Addr) (cl : Cl) (fs : List (Str × V)), vs = [.ref p] ∧ H p = some (.ins (B cl) dx fs) ∧ fltC cl = true ∧ Q (.ref p) H
theorem sc_needed : FnScope ["value"] ["value"] (defScope (Df.st .dneeded)) := ⟨rfl, rfl, rfl, by decide +kernel, rfl, by decide +kernel, by decide +kernel⟩
theorem ok_needed (T : Txt P K mg A B Z) : FnR P w K mg base CX0 1 (A .dneeded) (spNeeded B) := by
  refine (T.d0 .dneeded).fn sc_needed (fun _ _ _ _ _ _ us h => by obtain ⟨a, rfl⟩ := len1 h; rfl) (fun vs H Q E h => by obtain ⟨_, _, _, _, rfl, _⟩ := h; rfl) fun cdv Ar outer s H vs Q E hr h => ?_
  obtain ⟨p, dx, cl, fs, rfl, hp, hc, q⟩ := h
  refine ⟨_, pss_cons (ps_if (pt_not (pt_val (pe_callB call_isi rfl (T.blt _ (by decide)) (by decide +kernel) (pa_cons (pv 0) (pa_cons (pe_glob (v := .ref (B .cFilter)) rfl (T.gC .cFilter) rfl) pa_nil))))) pss_never pss_nil) (pss_one (ps_ret (pv 0))), ?_⟩
  refine ⟨_, rfl, _, _, _, _, true, rfl, .own _, .base (.ins hp (T.cls cl) (T.ic cl).1 T.icg.1 T.icg.2 (T.ic cl).2), T.isFlt cl hc, true, rfl, iteF ⟨_, rfl, q⟩⟩
end
end Hs
set_option Elab.async false
set_option linter.all false
set_option maxRecDepth 100000
set_option maxHeartbeats 4000000
/-! led. -/
namespace Hs
open PySem PySem.Spec PyProof.Rows L2
section
variable {P : Program} {w : World} {K : PySem.W.Frag} {mg : Str → Option Value} {base : Heap} {A : Df → Addr} {B Z : Cl → Addr}
def ngS (S : List Int) : List Int := S.map fun v => 0 - v
theorem ngS_len (S : List Int) : (ngS S).length = S.length := List.length_map ..
theorem sd_neg {N : List Str} {S : List Int} {a : Side} (h : SideOk N S a) : SideOk N (ngS S) a.neg := by
  cases a with
  | col c => exact h
  | num i => exact List.mem_map_of_mem h
def Jld (B : Cl → Addr) : Jn := fun N S F p ws H Q => ∃ c, ws = [.ref c] ∧ ChAt B H c ∧ N ∈ Ns ∧ S.length ≤ 4 ∧ F.leaves ≤ 8 ∧ ∀ x H', Ex H H' → FltAt B N (ngS S) H' F.mir x → Q (.ref x) H'
theorem sc_ldF : FnScope ["self", "change"] ["self", "change"] (defScope (Df.st .dFilter_led)) := ⟨rfl, rfl, rfl, by decide +kernel, rfl, by decide +kernel, by decide +kernel⟩
theorem ok_ldF (T : Txt P K mg A B Z) (n : Nat) : FnR P w K mg base CX0 1 (A .dFilter_led) (SPd B .mled n .dFilter_led (Jld B)) := by
  refine (T.d0 .dFilter_led).fn sc_ldF (fun _ _ _ _ _ _ us h => by obtain ⟨a, b, rfl⟩ := len2 h; rfl) (fun vs H Q E h => by obtain ⟨_, _, _, _, _, rfl, _, _, _, _, rfl, _⟩ := h; rfl) fun cdv Ar outer s H vs Q E hr h => ?_
  obtain ⟨F, p, ws, N, S, rfl, ⟨dx, t1, t2, t3, ks, rr, hp, hH, hR⟩, hn, hd, c, rfl, hc, hN, sl, hl, q⟩ := h
  refine ⟨_, pss_one (ps_ret (pv 0)), ?_⟩
  have hF' : ∃ b, F = .fixed b := by
    cases F with
    | fixed b => exact ⟨b, rfl⟩
    | cmp o a b => cases o <;> cases hd
    | _ => cases hd
  obtain ⟨b, rfl⟩ := hF'
  obtain ⟨rfl, rfl⟩ := (show rr = [] ∧ ks = [] from hR)
  exact ⟨_, rfl, q p H (Ex.refl H) ⟨dx, t1, t2, t3, [], [], hp, ⟨hH.cs, hH.kt, hH.kn, (fun k hk => nomatch hk), hH.ls⟩, rfl, rfl⟩⟩
theorem chs_any (T : Txt P K mg A B Z) : MAny P w K mg base "side" 1 (fun _ => spChS B) (fun C => C = B .cChange) := by
  rintro C rfl
  exact ⟨T.cls _, A .dChange_side, ⟨T.fnd .cChange .mside _ rfl, T.isF _, (T.dk _).kp⟩, ok_Chs T⟩
theorem sc_ldC : FnScope ["self", "change", "one", "other"] ["self", "change"] (defScope (Df.st .dCompared_led)) := ⟨rfl, rfl, rfl, by decide +kernel, rfl, by decide +kernel, by decide +kernel⟩
theorem ok_ldC (T : Txt P K mg A B Z) (n : Nat) : FnR P w K mg base CX0 6 (A .dCompared_led) (SPd B .mled n .dCompared_led (Jld B)) := by
  refine (T.d0 .dCompared_led).fn sc_ldC (fun _ _ _ _ _ _ us h => by obtain ⟨a, b, rfl⟩ := len2 h; rfl) (fun vs H Q E h => by obtain ⟨_, _, _, _, _, rfl, _, _, _, _, rfl, _⟩ := h; rfl) fun cdv Ar outer s H vs Q E hr h => ?_
  obtain ⟨F, p, ws, N, S, rfl, ⟨dx, t1, t2, t3, ks, rr, hp, hH, hR⟩, hn, hd, c, rfl, hc, hN, sl, hl, q⟩ := h
  have nd := sc_ldC.nd
  have hr1 : Room 1 _ := hr.mono (j := 1) (by decide)
  refine ⟨_, pss_cons (ps_par (i := 2) (j := 3) rfl nd rfl rfl (by decide) rfl rfl (pa_cons (pe_ma (pv 1) (chs_any T) hr1 (pa_cons (pe_fld (pv 0) rfl) pa_nil)) (pa_cons (pe_ma (pv 1) (chs_any T) hr1 (pa_cons (pe_fld (pv 0) rfl) pa_nil)) pa_nil)) (by rfl))
    (pss_one (ps_ret (pe_ifExp (pt_val (pe_fld (pv 1) rfl)) (pe_fn (ok_compared T) hr rfl (T.gD .dcompared rfl) (T.dk .dcompared).kp (pa_cons (pe_con (pv 0) rfl) (pa_cons (pv 3) (pa_cons (pv 2) pa_nil))))
      (pe_fn (ok_compared T) hr rfl (T.gD .dcompared rfl) (T.dk .dcompared).kp (pa_cons (pe_con (pv 0) rfl) (pa_cons (pv 2) (pa_cons (pv 3) pa_nil))))))), ?_⟩
  have hF' : ∃ o a b, F = .cmp o a b := by
    cases F with
    | cmp o a b => exact ⟨o, a, b, rfl⟩
    | fixed b => cases b <;> cases hd
    | _ => cases hd
  obtain ⟨o, a, b, rfl⟩ := hF'
  obtain ⟨rfl, ha, hb, hab⟩ := hR
  have hc0 := hc
  obtain ⟨cx, d, c1, c2⟩ := hc
  have hcl : Cls K (B (opC o)) := T.cls _
  refine ⟨_, rfl, c, _, cx, _, rfl, c1, rfl, rfl, _, rfl, p, _, dx, _, _, rfl, hp, hcl, T.no _ _ (by decide), rfl, c, a, rfl, hc0, ?_⟩
  refine ⟨_, rfl, c, _, cx, _, rfl, c1, rfl, rfl, _, rfl, p, _, dx, _, _, rfl, hp, hcl, T.no _ _ (by decide), rfl, c, b, rfl, hc0, ?_⟩
  obtain ⟨tk, w1, w2⟩ := T.word (opC o) (opW o) (by cases o <;> rfl)
  refine ⟨_, _, rfl, _, rfl, c, _, cx, _, _, rfl, c1, T.cls _, T.no _ _ (by decide), rfl, true, rfl, iteT ?_⟩
  refine ⟨_, rfl, p, _, dx, _, .str (opW o), _, rfl, hp, hcl, ⟨w1, ⟨tk, rfl⟩, w2, by decide +kernel⟩, rfl, ?_⟩
  refine ⟨_, rfl, _, rfl, o, b.neg, a.neg, N, ngS S, rfl, hN, sd_neg hb, sd_neg ha, ?_, q⟩
  rcases hab with ⟨x, rfl⟩ | ⟨x, rfl⟩
  · exact .inr ⟨x, rfl⟩
  · exact .inl ⟨x, rfl⟩
theorem among_swap {N : List Str} {S : List Int} {H : Hp} {c : Str} {l l' : List Int} {p : Addr} (h : FltAt B N S H (.among c l) p) (e : ∀ k, k ∈ l ↔ k ∈ l') : FltAt B N S H (.among c l') p := by
  obtain ⟨dx, t1, t2, t3, ks, r, h1, h2, rfl, h3, h4, h5⟩ := h
  refine ⟨dx, t1, t2, t3, ks, _, h1, h2, rfl, h3, fun k => (h4 k).trans (e k), fun z => h5 ?_⟩
  rw [z] at e
  exact List.eq_nil_iff_forall_not_mem.mpr fun k hk => nomatch (e k).mp hk
def fN : V → Option V
  | .int k => some (.int (0 - k))
  | _ => none
theorem fN_map : ∀ ks : List Int, (ks.map V.int).filterMap fN = (ks.map fun v => 0 - v).map V.int
  | [] => rfl
  | k :: ks => by
    rw [List.map_cons, List.filterMap_cons, show fN (.int k) = some (.int (0 - k)) from rfl, fN_map ks]
    rfl
theorem sc_ldA : FnScope ["self", "change", "numbers", "value"] ["self", "change"] (defScope (Df.st .dAmong_led)) := ⟨rfl, rfl, rfl, by decide +kernel, rfl, by decide +kernel, by decide +kernel⟩
theorem ok_ldA (T : Txt P K mg A B Z) (n : Nat) : FnR P w K mg base CX0 6 (A .dAmong_led) (SPd B .mled n .dAmong_led (Jld B)) := by
  refine (T.d0 .dAmong_led).fn sc_ldA (fun _ _ _ _ _ _ us h => by obtain ⟨a, b, rfl⟩ := len2 h; rfl) (fun vs H Q E h => by obtain ⟨_, _, _, _, _, rfl, _, _, _, _, rfl, _⟩ := h; rfl) fun cdv Ar outer s H vs Q E hr h => ?_
  obtain ⟨F, p, ws, N, S, rfl, ⟨dx, t1, t2, t3, ks, rr, hp, hH, hR⟩, hn, hd, c, rfl, hc, hN, sl, hl, q⟩ := h
  have nd := sc_ldA.nd
  have hr1 : Room 1 _ := hr.mono (j := 1) (by decide)
  have mA := T.mkC .cAmong (d := .dAmong_init) rfl
  refine ⟨_, pss_cons (ps_setLc (i := 2) (own := [("value", 3)]) (g := gName 3) (tt := tYes) (te := tMA (fun C => C = B .cChange) "side" (fun _ => spChS B) (tVar 1) (tCons (tVar 3) tNil)) rfl nd rfl rfl (sw_true rfl rfl rfl (by decide +kernel)) (pi_tup (pe_fld (pv 0) rfl)) (blkOk_by (N := ["self", "change", "numbers", "value"]) (sc := defScope (Df.st .dAmong_led)) (by decide +kernel)) (fun _ _ _ _ _ => pg_name (i := 3) nd rfl (.inl rfl))
      (fun _ _ _ _ _ => pts_nil) (fun _ _ _ _ _ => pe_ma (pv 1) (chs_any T) (by exact hr1) (pa_cons (pv 3) pa_nil)))
    (pss_one (ps_ret (pe_mkS2 mA (ok_Ai T) hr rfl (T.gC .cAmong) (pa_cons (pe_ma (pv 1) (chs_any T) hr1 (pa_cons (pe_fld (pv 0) rfl) pa_nil)) (StX.pa_star (pv 2) pa_nil))))), ?_⟩
  have hF' : ∃ a l, F = .among a l := by
    cases F with
    | among a l => exact ⟨a, l, rfl⟩
    | cmp o a b => cases o <;> cases hd
    | fixed b => cases b <;> cases hd
    | _ => cases hd
  obtain ⟨a, l, rfl⟩ := hF'
  obtain ⟨rfl, ha, hm, hne⟩ := hR
  have hc0 := hc
  obtain ⟨cx, d, c1, c2⟩ := hc
  have hcl : Cls K (B .cAmong) := T.cls _
  have kl : ks.length ≤ 4 := Nat.le_trans (sub_len hH.kn hH.ks) sl
  refine ⟨_, rfl, p, _, dx, _, _, rfl, hp, hcl, T.no _ _ (by decide), lk_cons t1 t2 t3 (rC a), t2, rfl, ⟨_, SqT.of hH.kt⟩, fun D hD => lc_at walk_tup (fun H' e => SqT.of (e _ _ hH.kt)) hD (by rw [List.length_map]; omega) fN (fun x H5 hx e5 KK KN k1 k2 => ?_) fun H1 e1 h1 => ?_⟩
  · obtain ⟨k, _, rfl⟩ := List.mem_map.mp hx
    exact ⟨rfl, _, rfl, c, _, cx, _, rfl, e5 _ _ c1, rfl, rfl, _, rfl, c, .num k, rfl, hc0.mono e5, k1 _ _ (Ex.refl _) rfl⟩
  rw [fN_map] at h1
  refine ⟨_, rfl, c, _, cx, _, rfl, e1 _ _ c1, rfl, rfl, _, rfl, p, _, dx, _, _, rfl, e1 _ _ hp, hcl, T.no _ _ (by decide), rfl, c, .col a, rfl, hc0.mono e1, ?_⟩
  refine ⟨_, rfl, D, _, rfl, .inr (SqL.of h1), fun x dx2 hx hdx hne2 => ?_⟩
  rw [List.append_nil]
  have hk0 : ks.map (fun v => 0 - v) ≠ [] := fun z => by
    have : ks = [] := List.map_eq_nil_iff.mp z
    subst this
    exact hne (List.eq_nil_iff_forall_not_mem.mpr fun k hk => nomatch (hm k).mpr hk)
  refine ⟨x, dx2, a, ks.map (fun v => 0 - v), N, ngS S, rfl, upd_same, hN, ha, hk0, by rw [List.length_map]; omega, by rw [ngS_len]; exact sl, fun k hk => ?_, fun H' eb hF => ⟨rfl, q x H' (e1.trans (mk_ex hx hdx eb)) (among_swap hF fun k => ?_)⟩⟩
  · obtain ⟨j, hj, rfl⟩ := List.mem_map.mp hk
    exact List.mem_map_of_mem (hH.ks j hj)
  · rw [List.mem_map, List.mem_map]
    exact ⟨fun ⟨j, hj, e⟩ => ⟨j, (hm j).mp hj, e⟩, fun ⟨j, hj, e⟩ => ⟨j, (hm j).mpr hj, e⟩⟩
theorem sc_ldM : FnScope ["self", "change"] ["self", "change"] (defScope (Df.st .dMissing_led)) := ⟨rfl, rfl, rfl, by decide +kernel, rfl, by decide +kernel, by decide +kernel⟩
theorem ok_ldM (T : Txt P K mg A B Z) (n : Nat) : FnR P w K mg base CX0 6 (A .dMissing_led) (SPd B .mled n .dMissing_led (Jld B)) := by
  refine (T.d0 .dMissing_led).fn sc_ldM (fun _ _ _ _ _ _ us h => by obtain ⟨a, b, rfl⟩ := len2 h; rfl) (fun vs H Q E h => by obtain ⟨_, _, _, _, _, rfl, _, _, _, _, rfl, _⟩ := h; rfl) fun cdv Ar outer s H vs Q E hr h => ?_
  obtain ⟨F, p, ws, N, S, rfl, ⟨dx, t1, t2, t3, ks, rr, hp, hH, hR⟩, hn, hd, c, rfl, hc, hN, sl, hl, q⟩ := h
  have hr1 : Room 1 _ := hr.mono (j := 1) (by decide)
  have mM := T.mkC .cMissing (d := .dMissing_init) rfl
  refine ⟨_, pss_one (ps_ret (pe_mk mM (ok_Mi T) hr rfl (T.gC .cMissing) (pa_cons (pe_ma (pv 1) (chs_any T) hr1 (pa_cons (pe_fld (pv 0) rfl) pa_nil)) pa_nil))), ?_⟩
  have hF' : ∃ a, F = .missing a := by
    cases F with
    | missing a => exact ⟨a, rfl⟩
    | cmp o a b => cases o <;> cases hd
    | fixed b => cases b <;> cases hd
    | _ => cases hd
  obtain ⟨a, rfl⟩ := hF'
  obtain ⟨rfl, ha⟩ := hR
  have hc0 := hc
  obtain ⟨cx, d, c1, c2⟩ := hc
  refine ⟨_, rfl, c, _, cx, _, rfl, c1, rfl, rfl, _, rfl, p, _, dx, _, _, rfl, hp, T.cls _, T.no _ _ (by decide), rfl, c, .col a, rfl, hc0, fun x dx2 hx hdx hne2 => ?_⟩
  exact ⟨x, dx2, a, N, ngS S, rfl, upd_same, hN, ha, fun H' eb hF => ⟨rfl, q x H' (mk_ex hx hdx eb) hF⟩⟩
theorem sc_ldT : FnScope ["self", "change"] ["self", "change"] (defScope (Df.st .dTurned_led)) := ⟨rfl, rfl, rfl, by decide +kernel, rfl, by decide +kernel, by decide +kernel⟩
theorem mir_leaves : ∀ F : Flt, F.mir.leaves = F.leaves
  | .cmp _ _ _ => rfl
  | .among _ _ => rfl
  | .missing _ => rfl
  | .fixed _ => rfl
  | .turned f => mir_leaves f
  | .both f g => by show f.mir.leaves + g.mir.leaves = _; rw [mir_leaves f, mir_leaves g]; rfl
  | .either f g => by show f.mir.leaves + g.mir.leaves = _; rw [mir_leaves f, mir_leaves g]; rfl
theorem mir_ht : ∀ F : Flt, F.mir.ht = F.ht
  | .cmp _ _ _ => rfl
  | .among _ _ => rfl
  | .missing _ => rfl
  | .fixed _ => rfl
  | .turned f => by show f.mir.ht + 1 = _; rw [mir_ht f]; rfl
  | .both f g => by show max f.mir.ht g.mir.ht + 1 = _; rw [mir_ht f, mir_ht g]; rfl
  | .either f g => by show max f.mir.ht g.mir.ht + 1 = _; rw [mir_ht f, mir_ht g]; rfl
theorem ok_ldT (T : Txt P K mg A B Z) (n k : Nat) (hk : 4 ≤ k) (M : MAny P w K mg base "led" k (SPc B .mled n (Jld B)) (GoodF B fltI)) : FnR P w K mg base CX0 (k + 1) (A .dTurned_led) (SPd B .mled (n + 1) .dTurned_led (Jld B)) := by
  refine (T.d0 .dTurned_led).fn sc_ldT (fun _ _ _ _ _ _ us h => by obtain ⟨a, b, rfl⟩ := len2 h; rfl) (fun vs H Q E h => by obtain ⟨_, _, _, _, _, rfl, _, _, _, _, rfl, _⟩ := h; rfl) fun cdv Ar outer s H vs Q E hr h => ?_
  obtain ⟨F, p, ws, N, S, rfl, hF, hn, hd, c, rfl, hc, hN, sl, hl, q⟩ := h
  have mT := T.mkC .cTurned (d := .dTurned_init) rfl
  have hr4 : Room (3 + 1) _ := hr.mono hk
  refine ⟨_, pss_one (ps_ret (pe_mk mT (ok_Ti T) hr4 rfl (T.gC .cTurned) (pa_cons (pe_ma (pe_fld (pv 0) rfl) M hr (pa_cons (pv 1) pa_nil)) pa_nil))), ?_⟩
  have hF' : ∃ f, F = .turned f := by
    cases F with
    | turned f => exact ⟨f, rfl⟩
    | cmp o a b => cases o <;> cases hd
    | fixed b => cases b <;> cases hd
    | _ => cases hd
  obtain ⟨f, rfl⟩ := hF'
  obtain ⟨dx, t1, t2, t3, ks, q1, hp, hH, hf⟩ := hF.turned
  have hf0 := hf
  obtain ⟨dx', u1, u2, u3, ks', r', hp', hH', hR'⟩ := hf
  refine ⟨_, rfl, p, _, dx, _, _, rfl, hp, T.cls _, T.no _ _ (by decide), rfl, ?_⟩
  refine ⟨q1, _, dx', _, rfl, hp', ⟨_, rfl, flt_cl f⟩, rest_no hR' u1 u2 u3 .mled (.inr (.inr (.inr (.inl rfl)))), _, rfl, ?_⟩
  refine ⟨f, q1, _, N, S, rfl, hf0, by unfold Flt.ht at hn; omega, rfl, c, rfl, hc, hN, sl, hl, fun y H1 e1 hy x dx2 hx hdx hne2 => ?_⟩
  have pre := mk_pre (C := B .cTurned) hx hdx
  exact ⟨x, y, dx2, N, ngS S, f.mir, rfl, upd_same, hN, by rw [ngS_len]; omega, hy.mono pre, fun H' eb hF => ⟨rfl, q x H' (e1.trans (mk_ex hx hdx eb)) hF⟩⟩
theorem sc_ldJ : FnScope ["self", "change"] ["self", "change"] (defScope (Df.st .dJoined_led)) := ⟨rfl, rfl, rfl, by decide +kernel, rfl, by decide +kernel, by decide +kernel⟩
theorem two_led {F : Flt} (hd : look F.cl .mled = some .dJoined_led) : ∃ k f g, F = joF k f g := by
  cases F with
  | both f g => exact ⟨true, f, g, rfl⟩
  | either f g => exact ⟨false, f, g, rfl⟩
  | cmp o a b => cases o <;> cases hd
  | fixed b => cases b <;> cases hd
  | _ => cases hd
theorem joF_at {N : List Str} {S : List Int} {H : Hp} {k : Bool} {f g : Flt} {p : Addr} (h : FltAt B N S H (joF k f g) p) : ∃ dx t1 t2 t3 ks q q', H p = some (.ins (B (joF k f g).cl) dx (hdr t1 t2 t3 ++ r2 (.ref q) (.ref q'))) ∧ Hd N S H t1 t2 t3 ks ∧ FltAt B N S H f q ∧ FltAt B N S H g q' := by
  cases k with
  | true => exact h.both
  | false => exact h.either
theorem joF_ht (k : Bool) (f g : Flt) : (joF k f g).ht = max f.ht g.ht + 1 ∧ (joF k f g).leaves = f.leaves + g.leaves ∧ (joF k f g).mir = joF k f.mir g.mir := by cases k <;> exact ⟨rfl, rfl, rfl⟩
theorem ok_ldJ (T : Txt P K mg A B Z) (n : Nat) (M : MAny P w K mg base "led" (n + 6) (SPc B .mled n (Jld B)) (GoodF B fltI)) : FnR P w K mg base CX0 (n + 7) (A .dJoined_led) (SPd B .mled (n + 1) .dJoined_led (Jld B)) := by
  refine (T.d0 .dJoined_led).fn sc_ldJ (fun _ _ _ _ _ _ us h => by obtain ⟨a, b, rfl⟩ := len2 h; rfl) (fun vs H Q E h => by obtain ⟨_, _, _, _, _, rfl, _, _, _, _, rfl, _⟩ := h; rfl) fun cdv Ar outer s H vs Q E hr h => ?_
  obtain ⟨F, p, ws, N, S, rfl, hF, hn, hd, c, rfl, hc, hN, sl, hl, q⟩ := h
  refine ⟨_, pss_one (ps_ret (pe_fn (ok_joined T n) hr rfl (T.gD .djoined rfl) (T.dk .djoined).kp (pa_cons (pe_con (pv 0) rfl) (pa_cons (pe_ma (pe_fld (pv 0) rfl) M hr (pa_cons (pv 1) pa_nil)) (pa_cons (pe_ma (pe_fld (pv 0) rfl) M hr (pa_cons (pv 1) pa_nil)) pa_nil))))), ?_⟩
  obtain ⟨k, f, g, rfl⟩ := two_led hd
  obtain ⟨dx, t1, t2, t3, ks, q1, q2, hp, hH, hf, hg⟩ := joF_at hF
  obtain ⟨z1, z2, z3⟩ := joF_ht k f g
  have hcl : Cls K (B (joF k f g).cl) := T.cls _
  obtain ⟨tk, w1, w2⟩ := T.word (joF k f g).cl (joW k) (by cases k <;> rfl)
  have hf0 := hf
  obtain ⟨dx', u1, u2, u3, ks', r', hp', hH', hR'⟩ := hf
  refine ⟨_, rfl, p, _, dx, _, .str (joW k), _, rfl, hp, hcl, ⟨w1, ⟨tk, rfl⟩, w2, by decide +kernel⟩, rfl, ?_⟩
  refine ⟨_, rfl, p, _, dx, _, _, rfl, hp, hcl, T.no _ _ (by decide), rfl, ?_⟩
  refine ⟨q1, _, dx', _, rfl, hp', ⟨_, rfl, flt_cl f⟩, rest_no hR' u1 u2 u3 .mled (.inr (.inr (.inr (.inl rfl)))), _, rfl, ?_⟩
  refine ⟨f, q1, _, N, S, rfl, hf0, by omega, rfl, c, rfl, hc, hN, sl, by omega, fun y H1 e1 hy => ?_⟩
  have hg1 := hg.mono e1
  have hg0 := hg1
  obtain ⟨ex', v1, v2, v3, ks'', r'', hp'', hH'', hR''⟩ := hg1
  refine ⟨_, rfl, p, _, dx, _, _, rfl, e1 _ _ hp, hcl, T.no _ _ (by decide), rfl, ?_⟩
  refine ⟨q2, _, ex', _, rfl, hp'', ⟨_, rfl, flt_cl g⟩, rest_no hR'' v1 v2 v3 .mled (.inr (.inr (.inr (.inl rfl)))), _, rfl, ?_⟩
  refine ⟨g, q2, _, N, S, rfl, hg0, by omega, rfl, c, rfl, hc.mono e1, hN, sl, by omega, fun y2 H2 e2 hy2 => ?_⟩
  refine ⟨k, y, y2, N, ngS S, f.mir, g.mir, rfl, hN, by rw [ngS_len]; exact sl, hy.mono e2, hy2, by rw [mir_ht]; omega, by rw [mir_ht]; omega, by rw [mir_leaves, mir_leaves]; omega, fun x H' e hx => q x H' ((e1.trans e2).trans e) (by rw [z3]; exact hx)⟩
theorem lk_ld {cl : Cl} (g : fltI cl = true) : look cl .mled = some .dFilter_led ∨ look cl .mled = some .dCompared_led ∨ look cl .mled = some .dAmong_led ∨ look cl .mled = some .dMissing_led ∨ look cl .mled = some .dTurned_led ∨ look cl .mled = some .dJoined_led := by
  cases cl <;> first | exact absurd g (by decide) | exact .inl rfl | exact .inr (.inl rfl) | exact .inr (.inr (.inl rfl)) | exact .inr (.inr (.inr (.inl rfl))) | exact .inr (.inr (.inr (.inr (.inl rfl)))) | exact .inr (.inr (.inr (.inr (.inr rfl))))
theorem led_any (T : Txt P K mg A B Z) : ∀ n : Nat, MAny P w K mg base "led" (n + 6) (SPc B .mled n (Jld B)) (GoodF B fltI)
  | 0 => meth_all (m := .mled) T fun cl g => by
    rcases lk_ld g with h | h | h | h | h | h
    · exact ⟨_, h, (ok_ldF T 0).mono (by omega)⟩
    · exact ⟨_, h, ok_ldC T 0⟩
    · exact ⟨_, h, ok_ldA T 0⟩
    · exact ⟨_, h, ok_ldM T 0⟩
    · exact ⟨_, h, none0 (name := "") fun F hF => by cases F with | cmp o a b => cases o <;> (intro z; cases z) | fixed b => cases b <;> (intro z; cases z) | turned f => unfold Flt.ht at hF; omega | _ => (intro z; cases z)⟩
    · exact ⟨_, h, none0 (name := "") fun F hF => by cases F with | cmp o a b => cases o <;> (intro z; cases z) | fixed b => cases b <;> (intro z; cases z) | both f g => unfold Flt.ht at hF; omega | either f g => unfold Flt.ht at hF; omega | _ => (intro z; cases z)⟩
  | n + 1 => meth_all (m := .mled) T fun cl g => by
    have M := led_any T n
    rcases lk_ld g with h | h | h | h | h | h
    · exact ⟨_, h, (ok_ldF T _).mono (by omega)⟩
    · exact ⟨_, h, (ok_ldC T _).mono (by omega)⟩
    · exact ⟨_, h, (ok_ldA T _).mono (by omega)⟩
    · exact ⟨_, h, (ok_ldM T _).mono (by omega)⟩
    · exact ⟨_, h, ok_ldT T n (n + 6) (by omega) M⟩
    · exact ⟨_, h, ok_ldJ T n M⟩
end
end Hs
set_option Elab.async false
set_option linter.all false
set_option maxRecDepth 100000
set_option maxHeartbeats 4000000
/-! mirrored; the operators of filters. -/
namespace Hs
open PySem PySem.Spec PyProof.Rows L2
section
variable {P : Program} {w : World} {K : PySem.W.Frag} {mg : Str → Option Value} {base : Heap} {A : Df → Addr} {B Z : Cl → Addr}
/-! ### more constants allowed -/
theorem Hd.widen {N : List Str} {S S' : List Int} {H : Hp} {t1 t2 t3 : Addr} {ks : List Int} (h : Hd N S H t1 t2 t3 ks) (hs : ∀ x, x ∈ S → x ∈ S') : Hd N S' H t1 t2 t3 ks := ⟨h.cs, h.kt, h.kn, fun k hk => hs k (h.ks k hk), h.ls⟩
theorem SideOk.widen {N : List Str} {S S' : List Int} {a : Side} (h : SideOk N S a) (hs : ∀ x, x ∈ S → x ∈ S') : SideOk N S' a := by
  cases a with
  | col c => exact h
  | num i => exact hs i h
theorem Rest.widen {N : List Str} {S S' : List Int} {H : Hp} (hs : ∀ x, x ∈ S → x ∈ S') : ∀ {F : Flt} {ks : List Int} {r : List (Str × V)}, Rest B N S H ks F r → Rest B N S' H ks F r := by
  intro F
  induction F with
  | cmp o a b => exact fun ⟨h1, h2, h3, h4⟩ => ⟨h1, h2.widen hs, h3.widen hs, h4⟩
  | among c vs => exact fun h => h
  | missing c => exact fun h => h
  | fixed b => exact fun h => h
  | turned f ih =>
    rintro ks r ⟨p, dx, t1, t2, t3, ks', r', h1, h2, h3, h4⟩
    exact ⟨p, dx, t1, t2, t3, ks', r', h1, h2, h3.widen hs, ih h4⟩
  | both f g ih1 ih2 =>
    rintro ks r ⟨p, dx, t1, t2, t3, ks', r', q, ex, u1, u2, u3, ls', r'', h1, h2, h3, h4, h5, h6, h7⟩
    exact ⟨p, dx, t1, t2, t3, ks', r', q, ex, u1, u2, u3, ls', r'', h1, h2, h3.widen hs, ih1 h4, h5, h6.widen hs, ih2 h7⟩
  | either f g ih1 ih2 =>
    rintro ks r ⟨p, dx, t1, t2, t3, ks', r', q, ex, u1, u2, u3, ls', r'', h1, h2, h3, h4, h5, h6, h7⟩
    exact ⟨p, dx, t1, t2, t3, ks', r', q, ex, u1, u2, u3, ls', r'', h1, h2, h3.widen hs, ih1 h4, h5, h6.widen hs, ih2 h7⟩
theorem FltAt.widen {N : List Str} {S S' : List Int} {H : Hp} {F : Flt} {p : Addr} (h : FltAt B N S H F p) (hs : ∀ x, x ∈ S → x ∈ S') : FltAt B N S' H F p := by
  obtain ⟨dx, t1, t2, t3, ks, r, h1, h2, h3⟩ := h
  exact ⟨dx, t1, t2, t3, ks, r, h1, h2.widen hs, h3.widen hs⟩
/-! ### mirrored -/
def Jmi (B : Cl → Addr) : Jn := fun N S F p ws H Q => ws = [] ∧ N ∈ Ns ∧ S.length ≤ 4 ∧ F.leaves ≤ 8 ∧ ∀ x H', Ex H H' → FltAt B N (ngS S) H' F.mir x → Q (.ref x) H'
theorem sc_mi : FnScope ["self"] ["self"] (defScope (Df.st .dFilter_mirrored)) := ⟨rfl, rfl, rfl, by decide +kernel, rfl, by decide +kernel, by decide +kernel⟩
theorem ok_mi (T : Txt P K mg A B Z) (n : Nat) : FnR P w K mg base CX0 (n + 7) (A .dFilter_mirrored) (SPd B .mmirrored n .dFilter_mirrored (Jmi B)) := by
  refine (T.d0 .dFilter_mirrored).fn sc_mi (fun _ _ _ _ _ _ us h => by obtain ⟨a, rfl⟩ := len1 h; rfl) (fun vs H Q E h => by obtain ⟨_, _, _, _, _, rfl, _, _, _, rfl, _⟩ := h; rfl) fun cdv Ar outer s H vs Q E hr h => ?_
  obtain ⟨F, p, ws, N, S, rfl, hF, hn, hd, rfl, hN, sl, hl, q⟩ := h
  have mC := T.mkC .cChange (d := .dChange_init) rfl
  have hr2 : Room (1 + 1) _ := hr.mono (j := 2) (by omega)
  refine ⟨_, pss_one (ps_ret (pe_ma (pv 0) (led_any T n) hr (pa_cons (pe_mk mC (ok_Chi T) hr2 rfl (T.gC .cChange) (pa_cons pe_dnewK (pa_cons pe_int (pa_cons pe_bl pa_nil)))) pa_nil))), ?_⟩
  have hF0 := hF
  obtain ⟨dx, t1, t2, t3, ks, r, hp, hH, hR⟩ := hF
  refine ⟨_, rfl, p, _, dx, _, rfl, hp, ⟨_, rfl, flt_cl F⟩, rest_no hR t1 t2 t3 .mled (.inr (.inr (.inr (.inl rfl)))), fun d hd2 x dx2 hx hdx hne => ?_⟩
  have e0 : Ex H (upd H d (.dK [])) := Ex.new hd2
  refine ⟨x, d, dx2, rfl, upd_same, (mk_pre hx hdx) _ _ upd_same, fun H' eb hc => ⟨rfl, ?_⟩⟩
  have e1 : Ex H H' := e0.trans (mk_ex hx hdx eb)
  exact ⟨F, p, _, N, S, rfl, hF0.mono e1, hn, rfl, x, rfl, hc, hN, sl, hl, fun y H2 e2 hy => q y H2 (e1.trans e2) hy⟩
theorem mir_any (T : Txt P K mg A B Z) (n : Nat) : MAny P w K mg base "mirrored" (n + 7) (SPc B .mmirrored n (Jmi B)) (GoodF B fltI) := meth_all (m := .mmirrored) T fun cl g => ⟨.dFilter_mirrored, by
  cases cl <;> first | exact absurd g (by decide) | rfl, ok_mi T n⟩
/-! ### ~ -/
def invF : Flt → Flt
  | .turned f => f
  | f => .turned f
def Jin (B : Cl → Addr) : Jn := fun N S F p ws H Q => ws = [] ∧ N ∈ Ns ∧ S.length ≤ 4 ∧ ∀ x H', Ex H H' → FltAt B N S H' (invF F) x → Q (.ref x) H'
theorem sc_inF : FnScope ["self"] ["self"] (defScope (Df.st .dFilter_invert)) := ⟨rfl, rfl, rfl, by decide +kernel, rfl, by decide +kernel, by decide +kernel⟩
theorem ok_inF (T : Txt P K mg A B Z) (n : Nat) : FnR P w K mg base CX0 5 (A .dFilter_invert) (SPd B .minvert n .dFilter_invert (Jin B)) := by
  refine (T.d0 .dFilter_invert).fn sc_inF (fun _ _ _ _ _ _ us h => by obtain ⟨a, rfl⟩ := len1 h; rfl) (fun vs H Q E h => by obtain ⟨_, _, _, _, _, rfl, _, _, _, rfl, _⟩ := h; rfl) fun cdv Ar outer s H vs Q E hr h => ?_
  obtain ⟨F, p, ws, N, S, rfl, hF, hn, hd, rfl, hN, sl, q⟩ := h
  have mT := T.mkC .cTurned (d := .dTurned_init) rfl
  refine ⟨_, pss_one (ps_ret (pe_mk mT (ok_Ti T) hr rfl (T.gC .cTurned) (pa_cons (pv 0) pa_nil))), ?_⟩
  have e : invF F = .turned F := by
    cases F with
    | turned f => cases hd
    | _ => rfl
  refine ⟨_, rfl, fun x dx2 hx hdx hne => ?_⟩
  have pre := mk_pre (C := B .cTurned) hx hdx
  exact ⟨x, p, dx2, N, S, F, rfl, upd_same, hN, by omega, hF.mono pre, fun H' eb hT => ⟨rfl, q x H' (mk_ex hx hdx eb) (by rw [e]; exact hT)⟩⟩
theorem sc_inT : FnScope ["self"] ["self"] (defScope (Df.st .dTurned_invert)) := ⟨rfl, rfl, rfl, by decide +kernel, rfl, by decide +kernel, by decide +kernel⟩
theorem ok_inT (T : Txt P K mg A B Z) (n : Nat) : FnR P w K mg base CX0 1 (A .dTurned_invert) (SPd B .minvert n .dTurned_invert (Jin B)) := by
  refine (T.d0 .dTurned_invert).fn sc_inT (fun _ _ _ _ _ _ us h => by obtain ⟨a, rfl⟩ := len1 h; rfl) (fun vs H Q E h => by obtain ⟨_, _, _, _, _, rfl, _, _, _, rfl, _⟩ := h; rfl) fun cdv Ar outer s H vs Q E hr h => ?_
  obtain ⟨F, p, ws, N, S, rfl, hF, hn, hd, rfl, hN, sl, q⟩ := h
  refine ⟨_, pss_one (ps_ret (pe_fld (pv 0) rfl)), ?_⟩
  have hF' : ∃ f, F = .turned f := by
    cases F with
    | turned f => exact ⟨f, rfl⟩
    | cmp o a b => cases o <;> cases hd
    | fixed b => cases b <;> cases hd
    | _ => cases hd
  obtain ⟨f, rfl⟩ := hF'
  obtain ⟨dx, t1, t2, t3, ks, q1, hp, hH, hf⟩ := hF.turned
  exact ⟨_, rfl, p, _, dx, _, _, rfl, hp, T.cls _, T.no _ _ (by decide), rfl, q q1 H (Ex.refl H) hf⟩
theorem lk_in {cl : Cl} (g : fltI cl = true) : look cl .minvert = some .dFilter_invert ∨ look cl .minvert = some .dTurned_invert := by
  cases cl <;> first | exact absurd g (by decide) | exact .inl rfl | exact .inr rfl
theorem inv_any (T : Txt P K mg A B Z) (n : Nat) : MAny P w K mg base "__invert__" 5 (SPc B .minvert n (Jin B)) (GoodF B fltI) := meth_all (m := .minvert) T fun cl g => by
  rcases lk_in g with h | h
  · exact ⟨_, h, ok_inF T n⟩
  · exact ⟨_, h, (ok_inT T n).mono (by decide)⟩
/-! ### & and | -/
def spJop (B : Cl → Addr) (n : Nat) (k : Bool) : Sp := fun vs H Q _ => ∃ (a b : Addr) (N : List Str) (S : List Int) (F G : Flt), vs = [.ref a, .ref b] ∧ N ∈ Ns ∧ S.length ≤ 4 ∧ FltAt B N S H F a ∧ FltAt B N S H G b ∧ F.ht ≤ n ∧ G.ht ≤ n ∧ F.leaves + G.leaves ≤ 8 ∧ ∀ x H', Ex H H' → FltAt B N S H' (joF k F G) x → Q (.ref x) H'
theorem sc_and : FnScope ["self", "other"] ["self", "other"] (defScope (Df.st .dFilter_and)) := ⟨rfl, rfl, rfl, by decide +kernel, rfl, by decide +kernel, by decide +kernel⟩
theorem ok_and (T : Txt P K mg A B Z) (n : Nat) : FnR P w K mg base CX0 (n + 6) (A .dFilter_and) (spJop B n true) := by
  refine (T.d0 .dFilter_and).fn sc_and (fun _ _ _ _ _ _ us h => by obtain ⟨a, b, rfl⟩ := len2 h; rfl) (fun vs H Q E h => by obtain ⟨_, _, _, _, _, _, rfl, _⟩ := h; rfl) fun cdv Ar outer s H vs Q E hr h => ?_
  obtain ⟨a, b, N, S, F, G, rfl, hN, sl, hF, hG, h1, h2, hl, q⟩ := h
  have mB := T.mkC .cBoth (d := .dJoined_init) rfl
  have hrn : Room (n + 4 + 1) _ := hr
  have hr1 : Room 1 _ := hr.mono (j := 1) (by omega)
  refine ⟨_, pss_one (ps_ret (pe_mk mB (ok_Ji T n) hrn rfl (T.gC .cBoth) (pa_cons (pv 0) (pa_cons (pe_fn (ok_needed T) hr1 rfl (T.gD .dneeded rfl) (T.dk .dneeded).kp (pa_cons (pv 1) pa_nil)) pa_nil)))), ?_⟩
  have hG0 := hG
  obtain ⟨ey, v1, v2, v3, ks2, r', g1, g2, g3⟩ := hG
  exact ⟨_, rfl, _, rfl, b, ey, G.cl, _, rfl, g1, flt_C G, fun x dx hx hd _ => mk_joi (k := true) hN sl hF hG0 h1 h2 hl q x dx hx hd⟩
theorem sc_or : FnScope ["self", "other"] ["self", "other"] (defScope (Df.st .dFilter_or)) := ⟨rfl, rfl, rfl, by decide +kernel, rfl, by decide +kernel, by decide +kernel⟩
theorem ok_or (T : Txt P K mg A B Z) (n : Nat) : FnR P w K mg base CX0 (n + 6) (A .dFilter_or) (spJop B n false) := by
  refine (T.d0 .dFilter_or).fn sc_or (fun _ _ _ _ _ _ us h => by obtain ⟨a, b, rfl⟩ := len2 h; rfl) (fun vs H Q E h => by obtain ⟨_, _, _, _, _, _, rfl, _⟩ := h; rfl) fun cdv Ar outer s H vs Q E hr h => ?_
  obtain ⟨a, b, N, S, F, G, rfl, hN, sl, hF, hG, h1, h2, hl, q⟩ := h
  have mE := T.mkC .cEither (d := .dJoined_init) rfl
  have hrn : Room (n + 4 + 1) _ := hr
  have hr1 : Room 1 _ := hr.mono (j := 1) (by omega)
  refine ⟨_, pss_one (ps_ret (pe_mk mE (ok_Ji T n) hrn rfl (T.gC .cEither) (pa_cons (pv 0) (pa_cons (pe_fn (ok_needed T) hr1 rfl (T.gD .dneeded rfl) (T.dk .dneeded).kp (pa_cons (pv 1) pa_nil)) pa_nil)))), ?_⟩
  have hG0 := hG
  obtain ⟨ey, v1, v2, v3, ks2, r', g1, g2, g3⟩ := hG
  exact ⟨_, rfl, _, rfl, b, ey, G.cl, _, rfl, g1, flt_C G, fun x dx hx hd _ => mk_joi (k := false) hN sl hF hG0 h1 h2 hl q x dx hx hd⟩
def Good2 (B : Cl → Addr) (C C' : Addr) : Prop := GoodF B fltI C ∧ GoodF B fltI C'
theorem flt_sf {cl : Cl} (g : fltI cl = true) : sfC cl = true := by cases cl <;> first | exact absurd g (by decide) | rfl
theorem look_and {cl : Cl} (g : fltI cl = true) : look cl .mand = some .dFilter_and ∧ look cl .mor = some .dFilter_or := by cases cl <;> first | exact absurd g (by decide) | exact ⟨rfl, rfl⟩
theorem and_any (T : Txt P K mg A B Z) (n : Nat) : ∀ C C', Good2 B C C' → ∃ f, BinC K .BitAnd C C' f ∧ FnR P w K mg base CX0 (n + 6) f (spJop B n true) := by
  rintro C C' ⟨⟨c, rfl, g⟩, ⟨c', rfl, g'⟩⟩
  exact ⟨A .dFilter_and, ⟨T.selfF c (flt_sf g), T.selfF c' (flt_sf g'), T.fnd c .mand _ (look_and g).1, T.isF _, T.dunN c _ (flt_sf g) (by decide), T.fnd c' .mand _ (look_and g').1, T.dunN c' _ (flt_sf g') (by decide), T.subN c c' (flt_sf g) (flt_sf g')⟩, ok_and T n⟩
theorem or_any (T : Txt P K mg A B Z) (n : Nat) : ∀ C C', Good2 B C C' → ∃ f, BinC K .BitOr C C' f ∧ FnR P w K mg base CX0 (n + 6) f (spJop B n false) := by
  rintro C C' ⟨⟨c, rfl, g⟩, ⟨c', rfl, g'⟩⟩
  exact ⟨A .dFilter_or, ⟨T.selfF c (flt_sf g), T.selfF c' (flt_sf g'), T.fnd c .mor _ (look_and g).2, T.isF _, T.dunN c _ (flt_sf g) (by decide), T.fnd c' .mor _ (look_and g').2, T.dunN c' _ (flt_sf g') (by decide), T.subN c c' (flt_sf g) (flt_sf g')⟩, ok_or T n⟩
end
end Hs
set_option Elab.async false
set_option linter.all false
set_option maxRecDepth 100000
set_option maxHeartbeats 4000000
/-! A method of a dict whose keys are tuples. -/
namespace Hs
open PySem PySem.Spec PyProof.Rows L2
def tyTD (P : Program) (w : World) (x : V) (H : Hp) : Prop := ∃ d xs, x = .ref d ∧ TD P w H d xs
theorem ty_td {X : Cx} : TyOk X "dict" (tyTD X.prog X.w) := by
  intro pins σ H s x v I r ty
  obtain ⟨d, xs, rfl, T⟩ := ty
  cases r
  obtain ⟨od, hd, e, t, _⟩ := T.of I.hok
  refine ⟨⟨od, e, t.ex.1⟩, fun a e2 => ?_⟩
  cases e2
  exact ⟨od, e, t.ex.2.1⟩
end Hs
set_option Elab.async false
set_option linter.all false
set_option maxRecDepth 100000
set_option maxHeartbeats 4000000
/-! Rules: set(list of ints), repr(bool). -/
namespace Hs
open PySem PySem.Spec PyProof.Rows L2
/-- a set as it is made -/
abbrev noSet (w : World) : Obj := ⟨.type "set", none, .set #[] 0 (.fresh 0 0 (!w.params.followText "set-order")), #[]⟩
section
variable {P : Program} {w : World} {A : Around} {E : Value → Shared → Prop} {s : Shared}
theorem set_of_list {l : Addr} {xs : Array Value} (ns : List Int) {Q : Value → Shared → Prop} (nh : A.handled = none) (hl : s.heap.IsList l xs) (hit : IntsAre xs.toList ns) (few : ns.length + 1 < scanBound)
    (fin : ∀ (h' : Heap) (tk c : Nat), SetR w h' s.heap.objs.size (fun j => decide (j ∈ ns)) c → c ≤ ns.length → (∀ b o, s.heap.get? b = some o → h'.get? b = some o) → Q (.ref s.heap.objs.size) { s with heap := h', toks := tk }) :
    wpAny (model P w) A (call (.type "set") [.ref l]) Q E s := by
  have num : xs.size = ns.length := by rw [← Array.length_toList]; exact IntsAre.length hit
  obtain ⟨c, tl, mro⟩ := F.called_set.mro
  have made := F.called_set.made
  have sub := F.called_set.sub
  refine wpAny_call (codeAny_of_tree ?_)
  show wpAny _ _ (callAny (.type "set") _) _ _ _
  refine wpAny_pure ⟨Code.quiet_builtin _ (by decide +kernel), codeAny_builtin F.entry_type_call ?_⟩
  rw [Around.under_plain (weight_type_call_type "set" [.ref l] []) rfl]
  have noT := F.called_set.notType
  have can := F.called_set.canCreate
  have tc := F.typeCall_set_1 (.ref l)
  repeat (any_goals (first | assumption | wp_step))
  refine codeAny_mono (code_set_led1 (.ref l) (E := E) (Q₁ := fun x s1 => x = .ref s.heap.objs.size ∧ s1 = { s with heap := s.heap.push (noSet w) }) ⟨rfl, rfl⟩) fun r s1 hr => ?_
  rcases r with e | fl
  · exact hr
  cases fl with
  | ret x =>
    obtain ⟨rfl, rfl⟩ := hr
    generalize hg : s.heap.push (noSet w) = g
    have sz : g.objs.size = s.heap.objs.size + 1 := by rw [← hg]; exact Heap.size_push ..
    have up : ∀ {b o}, s.heap.get? b = some o → g.get? b = some o := fun h => by rw [← hg]; exact Heap.get?_push_of_some _ h
    have atS : g.get? s.heap.objs.size = some (noSet w) := by rw [← hg]; exact Heap.get?_push_size _ rfl
    have tyS : Shared.TypeIs { s with heap := g } (.ref s.heap.objs.size) "set" := ⟨_, atS, rfl⟩
    have ini := F.called_set.init.lookup
    have bin := F.called_set.init.bind (.ref s.heap.objs.size)
    repeat (any_goals (first | assumption | wp_step))
    refine codeAny_mono (codeAny_call_builtin (R := wants (fun r t => r = .none ∧ ∃ h' tk c, t = { s with heap := h', toks := tk } ∧ SetR w h' s.heap.objs.size (fun j => decide (j ∈ ns)) c ∧ c ≤ ns.length ∧ (∀ b o, s.heap.get? b = some o → h'.get? b = some o)) E) F.called_set.init.plain F.entry_set_init (check_set_init_1 tyS ?_)) fun r t ht => ?_
    · obtain ⟨ol, hol, hcl, nl, hdl⟩ := hl
      obtain ⟨ocls, odict, odata, oslots⟩ := ol
      simp only at hcl hdl
      subst hcl hdl
      have atl := up hol
      have lst : Heap.IsList (Shared.heap { s with heap := g }) l xs := ⟨_, up hol, rfl, nl, rfl⟩
      have ll : l < s.heap.objs.size := Heap.lt_size hol
      have s1 := F.sub_list_set
      have s2 := F.sub_list_frozenset
      have nd : (Value.type "list" == Value.type "dict") = false := by decide
      unfold Builtin.«set.__init__» noKeywords Builtin.Frozenset.updateFrom
      generalize hp : pyIter = it
      wp_walk
      subst hp
      refine wpAny_pyIter_list lst ?_
      refine wpAny_bind (wpAny_runValue ?_)
      have nh3 : A.in1.in1.in1.handled = none := by simp [nh]
      have ne1 : l ≠ g.objs.size := Nat.ne_of_lt (by rw [sz]; exact Nat.lt_succ_of_lt ll)
      have nS : s.heap.objs.size ∉ [g.objs.size, l] := by
        simp only [List.mem_cons, List.not_mem_nil, or_false, not_or]
        exact ⟨Nat.ne_of_lt (by rw [sz]; exact Nat.lt_succ_self _), Nat.ne_of_gt ll⟩
      have each : ∀ (i : Nat) (v : Value), xs[i]? = some v → ∃ k t, ns[i]? = some k ∧ v = .int k t := fun i v hv => by
        have hi : i < ns.length := by rw [← num]; exact (Array.getElem?_eq_some_iff.mp hv).1
        obtain ⟨t, e⟩ := PyProof.Rows.IntsAre.int_at hit i v (by rw [Array.getElem?_toList]; exact hv)
        exact ⟨ns[i], t, List.getElem?_eq_getElem hi, by rw [e, List.getD_eq_getElem?_getD, List.getElem?_eq_getElem hi]; rfl⟩
      refine set_update_ints ((Walks.list nh3 _ l ne1 xs).toS) s.heap.objs.size nS ns num few each (xs.size - 0) 0 _ (by omega) (Nat.zero_le _) ⟨⟨_, Heap.get?_push_size _ rfl, rfl, rfl⟩, lst.push _⟩ ⟨0, Nat.le_refl 0, setR_new_at (Heap.get?_push_of_some _ atS)⟩ ?_
      rintro ⟨h', g2, d', tk', os'⟩ c' hm hc' hS
      have e1 : g2 = s.gens := hm.gens
      have e2 : d' = s.drawn := hm.drawn
      have e3 : os' = s.os := hm.os
      subst e1 e2 e3
      show wpAny _ _ _ _ _ _
      refine wpAny_pure ?_
      show wpAny _ _ (ret Value.none) _ _ _
      rw [num] at hc'
      refine wpAny_pure ⟨rfl, h', tk', c', rfl, hS, hc', fun b o e => ?_⟩
      have hb := Heap.lt_size e
      exact hm.heap b o (by simp only [List.mem_cons, List.not_mem_nil, or_false, not_or]; exact ⟨Nat.ne_of_lt hb, Nat.ne_of_lt (by rw [sz]; exact Nat.lt_succ_of_lt hb)⟩) (Heap.get?_push_of_some _ (up e))
    · rcases r with e | fl
      · exact ht
      cases fl with
      | ret r =>
        obtain ⟨rfl, h', tk, c, rfl, h1, h2, h3⟩ := ht
        repeat (any_goals (first | assumption | wp_step))
        exact fin _ _ _ h1 h2 h3
      | _ => exact ht.elim
  | _ => exact hr.elim
end
section
variable {X : Cx}
def rSetL (K : PySem.W.Frag) (w : World) : List V → Hp → VK → Prop := fun xs H Q => ∃ (l : Addr) (ns : List Int), xs = [V.ref l] ∧ SqL K H l (ns.map V.int) ∧ ns.length < 64 ∧
  ∀ p c, H p = none → c ≤ ns.length → Q (.ref p) (upd H p (SetO w p (fun j => decide (j ∈ ns)) c))
theorem cr_setL (hc : X.calm = true) : CallR X (.type "set") (rSetL X.K X.w) := by
  intro pins s σ H xs us Q I r h
  obtain ⟨l, ns, rfl, hl, few, q⟩ := h
  rw [Vals.ref1 r]
  obtain ⟨its, rv, pl, hz⟩ := I.list hl
  refine set_of_list (P := X.prog) (w := X.w) ns (I.ok.hd hc) pl.isList (by simpa using ints_of_vals rv) (by unfold scanBound; omega) fun h' tk c R hcn k => ?_
  exact ⟨.ref s.heap.objs.size, _, I.laid (t' := tk) k (Nat.le_refl _) (setO_new R), rfl, q _ c (I.hok.fresh (Nat.le_refl _)) hcn⟩
/-- repr of a truth value -/
theorem cr_reprB : CallR X (.builtin "repr") (fun xs H Q => ∃ b, xs = [.bl b] ∧ Q (.str (if b = true then "True" else "False")) H) := by
  intro pins s σ H xs us Q I r h
  obtain ⟨b, rfl, q⟩ := h
  obtain ⟨u, rfl, ru⟩ := vals1 r
  cases (show u = Value.bool b from ru)
  exact PySem.P.repr_of_bool ⟨.str _, H, I.tok _, ⟨_, rfl⟩, q⟩
end
end Hs
set_option Elab.async false
set_option linter.all false
set_option maxRecDepth 100000
set_option maxHeartbeats 4000000
/-! Lots: the entries. -/
namespace Hs
open PySem PySem.Spec PyProof.Rows L2
abbrev Rw := List (Option Int)
def lfo : Option Int → Leaf
  | none => .none
  | some i => .num i
def lf (r : Rw) : List Leaf := r.map lfo
theorem lf_V (r : Rw) : (lf r).map lV = r.map oV := by
  unfold lf
  rw [List.map_map]
  exact List.map_congr_left fun o _ => by cases o <;> rfl
theorem lf_inj : ∀ {r r' : Rw}, lf r = lf r' → r = r'
  | [], [], _ => rfl
  | [], b :: r', h => nomatch h
  | a :: r, [], h => nomatch h
  | a :: r, b :: r', h => by
    unfold lf at h
    rw [List.map_cons, List.map_cons] at h
    injection h with h1 h2
    have e : a = b := by cases a <;> cases b <;> first | rfl | (injection h1 with h1; rw [h1]) | cases h1
    rw [e, lf_inj (r := r) (r' := r') h2]
abbrev E3 := Addr × (Rw × Int)
def ent (e : E3) : Ent := (lf e.2.1, e.1, .int e.2.2)
def valE (es : List E3) (r : Rw) : Option Int := (es.find? fun e => decide (e.2.1 = r)).map (·.2.2)
def updE (r : Rw) (v : Int) (e : E3) : E3 := if e.2.1 = r then (e.1, e.2.1, v) else e
def setE (es : List E3) (r : Rw) (a : Addr) (v : Int) : List E3 := if (valE es r).isSome then es.map (updE r v) else es ++ [(a, r, v)]
theorem tat_ent (r : Rw) : ∀ es : List E3, tat (es.map ent) (lf r) = (valE es r).map V.int
  | [] => rfl
  | e :: es => by
    have ih := tat_ent r es
    unfold tat valE at ih ⊢
    by_cases h : e.2.1 = r
    · rw [List.map_cons, List.find?_cons_of_pos (by simp [ent, h]), List.find?_cons_of_pos (by simp [h])]
      rfl
    · have hn : ¬ (fun x : Ent => decide (x.1 = lf r)) (ent e) = true := fun z => h (lf_inj (of_decide_eq_true z))
      rw [List.map_cons, List.find?_cons_of_neg (p := fun x : Ent => decide (x.1 = lf r)) hn, List.find?_cons_of_neg (by simp [h])]
      exact ih
theorem tst_ent (r : Rw) (a : Addr) (v : Int) (es : List E3) : tst (es.map ent) (lf r) a (.int v) = (setE es r a v).map ent := by
  unfold tst setE
  rw [tat_ent]
  have : ((valE es r).map V.int).isSome = (valE es r).isSome := by cases valE es r <;> rfl
  rw [this]
  split
  · rw [List.map_map, List.map_map]
    refine List.map_congr_left fun e _ => ?_
    show (if (ent e).1 = lf r then ((ent e).1, (ent e).2.1, V.int v) else ent e) = ent (updE r v e)
    unfold updE
    by_cases h : e.2.1 = r
    · rw [if_pos h, if_pos (by simp [ent, h])]; rfl
    · rw [if_neg h, if_neg (fun z : (ent e).1 = lf r => h (lf_inj z))]
  · rw [List.map_append]; rfl
def tabE (es : List E3) : List (Rw × Int) := es.map (·.2)
def keysE (es : List E3) : List Rw := es.map (·.2.1)
theorem keys_ent (es : List E3) : (es.map ent).map (·.1) = (keysE es).map lf := by
  unfold keysE
  rw [List.map_map, List.map_map]; rfl
theorem val_none {es : List E3} {r : Rw} (h : r ∉ keysE es) : valE es r = none := by
  unfold valE
  rw [Option.map_eq_none_iff, List.find?_eq_none]
  intro e he z
  exact h (List.mem_map.mpr ⟨e, he, of_decide_eq_true z⟩)
theorem val_some {es : List E3} {r : Rw} (h : r ∈ keysE es) : ∃ v, valE es r = some v := by
  cases hv : valE es r with
  | some v => exact ⟨v, rfl⟩
  | none =>
    obtain ⟨e, he, z⟩ := List.mem_map.mp h
    unfold valE at hv
    rw [Option.map_eq_none_iff, List.find?_eq_none] at hv
    exact absurd (decide_eq_true z) (hv e he)
theorem upd_id {es : List E3} {r : Rw} {v : Int} (h : r ∉ keysE es) : es.map (updE r v) = es := by
  rw [List.map_congr_left (g := id) fun e he => ?_, List.map_id]
  unfold updE
  rw [if_neg fun z => h (List.mem_map.mpr ⟨e, he, z⟩)]
  rfl
theorem set_eqv {r : Rw} {a : Addr} {t : Int} : ∀ {es : List E3}, (keysE es).Nodup → Eqv (tabE (setE es r a ((valE es r).getD 0 + t))) (tabE es ++ [(r, t)]) := by
  have key : ∀ {es : List E3} {v : Int}, (keysE es).Nodup → valE es r = some v → ∀ f, mu (tabE (es.map (updE r (v + t)))) f = mu (tabE es) f + t * f r := by
    intro es
    induction es with
    | nil => intro v _ h; cases h
    | cons e es ih =>
      intro v nd h f
      have nd' := List.nodup_cons.mp nd
      by_cases c : e.2.1 = r
      · have hv : e.2.2 = v := by
          unfold valE at h
          rw [List.find?_cons_of_pos (by simp [c])] at h
          exact Option.some.inj h
        rw [List.map_cons, upd_id (by rw [← c]; exact nd'.1)]
        have e1 : updE r (v + t) e = (e.1, e.2.1, v + t) := by unfold updE; rw [if_pos c]
        rw [e1]
        show mu ((e.2.1, v + t) :: tabE es) f = mu (e.2 :: tabE es) f + t * f r
        rw [mu_cons, mu_cons, hv, c]
        show (v + t) * f r + _ = _
        have : (v + t) * f r = v * f r + t * f r := Int.add_mul ..
        omega
      · have e1 : updE r (v + t) e = e := by unfold updE; rw [if_neg c]
        have h2 : valE es r = some v := by
          unfold valE at h ⊢
          rw [List.find?_cons_of_neg (by simp [c])] at h
          exact h
        rw [List.map_cons, e1]
        show mu (e.2 :: tabE (es.map (updE r (v + t)))) f = mu (e.2 :: tabE es) f + t * f r
        rw [mu_cons, mu_cons, ih nd'.2 h2 f]
        omega
  intro es nd f
  rw [mu_append, mu_cons, mu_nil]
  unfold setE
  cases hv : valE es r with
  | none =>
    rw [if_neg (by simp)]
    show mu (tabE (es ++ [(a, r, 0 + t)])) f = _
    unfold tabE
    rw [List.map_append, mu_append]
    show _ + mu [(r, 0 + t)] f = _
    rw [mu_cons, mu_nil, Int.zero_add]
  | some v =>
    rw [if_pos (show (some v).isSome = true from rfl)]
    show mu (tabE (es.map (updE r (v + t)))) f = _
    rw [key nd hv f]
    show _ = _ + (t * f r + 0)
    omega
theorem set_keys {es : List E3} {r : Rw} {a : Addr} {v : Int} : keysE (setE es r a v) = if r ∈ keysE es then keysE es else keysE es ++ [r] := by
  unfold setE
  by_cases h : r ∈ keysE es
  · obtain ⟨w, hw⟩ := val_some h
    rw [if_pos h, hw, if_pos (show (some w).isSome = true from rfl)]
    unfold keysE
    rw [List.map_map]
    refine List.map_congr_left fun e _ => ?_
    show (updE r v e).2.1 = e.2.1
    unfold updE
    split <;> rfl
  · rw [if_neg h, val_none h, if_neg (by simp)]
    unfold keysE
    rw [List.map_append]; rfl
theorem set_nd {es : List E3} {r : Rw} {a : Addr} {v : Int} (h : (keysE es).Nodup) : (keysE (setE es r a v)).Nodup := by
  rw [set_keys]
  split
  · exact h
  · rename_i hn
    exact List.nodup_append.mpr ⟨h, List.nodup_cons.mpr ⟨List.not_mem_nil, List.nodup_nil⟩, fun x hx y hy => by rw [List.mem_singleton.mp hy]; exact fun z => hn (z ▸ hx)⟩
theorem set_mem {es : List E3} {r : Rw} {a : Addr} {v : Int} {e : E3} (h : e ∈ setE es r a v) : e = (a, r, v) ∨ (∃ b, e = (b, r, v) ∧ ∃ u, (b, r, u) ∈ es) ∨ e ∈ es := by
  unfold setE at h
  split at h
  · obtain ⟨e0, h0, rfl⟩ := List.mem_map.mp h
    unfold updE
    split
    · rename_i c
      exact .inr (.inl ⟨e0.1, by rw [c], e0.2.2, by rw [← c]; exact h0⟩)
    · exact .inr (.inr h0)
  · rcases List.mem_append.mp h with h | h
    · exact .inr (.inr h)
    · exact .inl (List.mem_singleton.mp h)
theorem set_len (es : List E3) (r : Rw) (a : Addr) (v : Int) : (setE es r a v).length ≤ es.length + 1 := by
  unfold setE
  split <;> simp
theorem val_pos {es : List E3} {r : Rw} {v : Int} (h : valE es r = some v) : ∃ a, (a, r, v) ∈ es := by
  unfold valE at h
  obtain ⟨e, he, rfl⟩ := Option.map_eq_some_iff.mp h
  have := List.find?_some he
  have c : e.2.1 = r := by simpa using this
  exact ⟨e.1, by rw [← c]; exact List.mem_of_find?_eq_some he⟩
theorem val_at {es : List E3} (nd : (keysE es).Nodup) {e : E3} (h : e ∈ es) : valE es e.2.1 = some e.2.2 := by
  induction es with
  | nil => cases h
  | cons d es ih =>
    have nd' := List.nodup_cons.mp nd
    unfold valE
    rcases List.mem_cons.mp h with rfl | h
    · rw [List.find?_cons_of_pos (by simp)]; rfl
    · have c : d.2.1 ≠ e.2.1 := fun z => nd'.1 (List.mem_map.mpr ⟨e, h, z.symm⟩)
      rw [List.find?_cons_of_neg (by simp [c])]
      exact ih nd'.2 h
end Hs
set_option Elab.async false
set_option linter.all false
set_option maxRecDepth 100000
set_option maxHeartbeats 4000000
/-! is_row, is_pair, need_pairs, ascending_rows. -/
namespace Hs
open PySem PySem.Spec PyProof.Rows L2
section
variable {P : Program} {w : World} {K : PySem.W.Frag} {mg : Str → Option Value} {base : Heap} {A : Df → Addr} {B Z : Cl → Addr}
theorem fm_bl : ∀ xs : List V, (xs.filterMap fun _ => some (V.bl true)) = List.replicate xs.length (V.bl true)
  | [] => rfl
  | x :: xs => by rw [List.filterMap_cons, fm_bl xs]; rfl
theorem oV_all {r : Rw} {x : V} (h : x ∈ r.map oV) : ∃ o, x = oV o := by
  obtain ⟨o, _, rfl⟩ := List.mem_map.mp h
  exact ⟨o, rfl⟩
def spRow : Sp := fun vs H Q _ => ∃ (a : Addr) (r : Rw), vs = [.ref a] ∧ H a = some (.tup (r.map oV)) ∧ 1 ≤ r.length ∧ r.length ≤ 3 ∧ ∀ H', Ex H H' → Q (.bl true) H'
theorem sc_is_row : FnScope ["value", "one"] ["value"] (defScope (Df.st .dis_row)) := ⟨rfl, rfl, rfl, by decide +kernel, rfl, by decide +kernel, by decide +kernel⟩
theorem ok_is_row (T : Txt P K mg A B Z) : FnR P w K mg base CX0 3 (A .dis_row) spRow := by
  refine (T.d0 .dis_row).fn sc_is_row (fun _ _ _ _ _ _ us h => by obtain ⟨a, rfl⟩ := len1 h; rfl) (fun vs H Q E h => by obtain ⟨_, _, rfl, _⟩ := h; rfl) fun cdv Ar outer s H vs Q E hr h => ?_
  obtain ⟨a, r, rfl, ha, h1, h2, q⟩ := h
  have nd := sc_is_row.nd
  obtain ⟨t1, t2, t3, t4, t5, t6, t7, m1, m2, m3, m4, m5, m6, m7⟩ := T.gMost
  refine ⟨_, pss_one (ps_ret (pe_and (pe_isT (n := "tuple") (pv 0) rfl (T.blt _ (by decide)) rfl (T.blt _ (by decide)) (by decide +kernel))
    (pe_and (pe_chain op_le op_le pe_int (pe_callB call_len_seq rfl (T.blt _ (by decide)) PySem.boot_len (pa_cons (pv 0) pa_nil)) (pe_glob (v := .int 3) rfl m4 ⟨_, rfl⟩))
    (pe_one (pe_callB (cr_all rfl) rfl (T.blt _ (by decide)) (by decide +kernel) (pa_cons (pe_lc (own := [("one", 1)]) (g := gName 1) (tt := tYes) rfl nd (pi_tup (pv 0)) (blkOk_by (N := ["value", "one"]) (sc := defScope (Df.st .dis_row)) (by decide +kernel))
      (fun _ _ _ _ _ => pg_name (i := 1) nd rfl (Or.inl rfl)) (fun _ _ _ _ _ => pts_nil) (fun _ _ _ _ _ => pe_fn (ok_is_value T) (by exact hr) rfl (T.gD .dis_value rfl) (T.dk .dis_value).kp (pa_cons (pv 1) pa_nil))) pa_nil)))))), ?_⟩
  have hT : SqT K H a (r.map oV) := SqT.of ha
  refine ⟨_, rfl, _, true, .base (.tup ha), k_tup_tup, true, rfl, iteT ?_⟩
  refine ⟨_, rfl, a, _, rfl, .inr hT, ?_⟩
  refine ⟨1, _, rfl, rfl, true, congrArg V.bl (decide_eq_true (by rw [List.length_map]; omega)), iteT ⟨_, 3, rfl, rfl, true, congrArg V.bl (decide_eq_true (by rw [List.length_map]; omega)), iteT ?_⟩⟩
  refine ⟨_, rfl, a, rfl, ⟨_, hT⟩, fun D hD => lc_at walk_tup (fun H' e => ex_t e hT) hD (by rw [List.length_map]; omega) (fun _ => some (.bl true)) (fun x H5 hx e5 KK KN k1 k2 => ?_) fun H1 e1 h1 => ?_⟩
  · obtain ⟨o, rfl⟩ := oV_all hx
    exact ⟨rfl, _, rfl, o, rfl, k1 _ _ (Ex.refl _) rfl⟩
  · refine ⟨D, List.replicate r.length true, rfl, SqL.of ?_, ?_⟩
    · rw [h1, List.map_replicate, fm_bl, List.length_map]
    · rw [List.all_replicate]
      have e : (if r.length = 0 then true else id true) = true := by split <;> rfl
      rw [e]
      exact q _ e1
/-- b is a row with its times -/
def PrAt (H : Hp) (b : Addr) (q : Rw × Int) : Prop := ∃ a, H b = some (.tup [.ref a, .int q.2]) ∧ H a = some (.tup (q.1.map oV))
theorem PrAt.mono {H H' : Hp} {b : Addr} {q : Rw × Int} (h : PrAt H b q) (e : Ex H H') : PrAt H' b q := by
  obtain ⟨a, h1, h2⟩ := h
  exact ⟨a, e _ _ h1, e _ _ h2⟩
def spPair : Sp := fun vs H Q _ => ∃ (b : Addr) (q : Rw × Int), vs = [.ref b] ∧ PrAt H b q ∧ 1 ≤ q.1.length ∧ q.1.length ≤ 3 ∧ 0 < q.2 ∧ ∀ H', Ex H H' → Q (.bl true) H'
theorem sc_is_pair : FnScope ["value"] ["value"] (defScope (Df.st .dis_pair)) := ⟨rfl, rfl, rfl, by decide +kernel, rfl, by decide +kernel, by decide +kernel⟩
theorem ok_is_pair (T : Txt P K mg A B Z) : FnR P w K mg base CX0 4 (A .dis_pair) spPair := by
  refine (T.d0 .dis_pair).fn sc_is_pair (fun _ _ _ _ _ _ us h => by obtain ⟨a, rfl⟩ := len1 h; rfl) (fun vs H Q E h => by obtain ⟨_, _, rfl, _⟩ := h; rfl) fun cdv Ar outer s H vs Q E hr h => ?_
  obtain ⟨b, ⟨r, t⟩, rfl, ⟨a, hb, ha⟩, h1, h2, h3, q⟩ := h
  have hr1 : Room 1 _ := hr.mono (j := 1) (by decide)
  refine ⟨_, pss_cons (ps_if (PW.pt (pw_or (pt_not (pt_val (pe_isT (n := "tuple") (pv 0) rfl (T.blt _ (by decide)) rfl (T.blt _ (by decide)) (by decide +kernel))))
      (pw_or (pt_cmpR op_ne (pe_callB call_len_seq rfl (T.blt _ (by decide)) PySem.boot_len (pa_cons (pv 0) pa_nil)) pe_int (nomark _))
        (pw_or1 (pt_not (pt_val (pe_fn (ok_is_row T) hr rfl (T.gD .dis_row rfl) (T.dk .dis_row).kp (pa_cons (pe_ix ix_tup (pv 0) pe_int (fun _ _ => rfl)) pa_nil)))))))) (pss_one (ps_ret pe_bl)) pss_nil)
    (pss_one (ps_ret (pe_and (pe_fn (ok_is_integer T) hr1 rfl (T.gD .dis_integer rfl) (T.dk .dis_integer).kp (pa_cons (pe_ix ix_tup (pv 0) pe_int (fun _ _ => rfl)) pa_nil)) (pe_one (pe_cmpR op_gt (pe_ix ix_tup (pv 0) pe_int (fun _ _ => rfl)) pe_int (nomark _)))))), ?_⟩
  have hT : SqT K H b [.ref a, .int t] := SqT.of hb
  refine ⟨_, rfl, _, true, .base (.tup hb), k_tup_tup, true, rfl, iteF ?_⟩
  refine ⟨_, rfl, b, _, rfl, .inr hT, rfl, false, congrArg (fun b => V.bl (!b)) (decide_eq_true (show V.int _ = V.int 2 from rfl)), iteF ?_⟩
  refine ⟨_, rfl, b, _, 0, .ref a, rfl, rfl, hT, rfl, ?_⟩
  refine ⟨a, r, rfl, ha, h1, h2, fun H1 e1 => ⟨true, rfl, iteF ?_⟩⟩
  have hT1 := ex_t e1 hT
  refine ⟨_, rfl, b, _, 1, .int t, rfl, rfl, hT1, rfl, _, rfl, .inl ⟨t, rfl, true, rfl, iteT ?_⟩⟩
  refine ⟨_, rfl, b, _, 1, .int t, rfl, rfl, hT1, rfl, t, 0, rfl, rfl, ?_⟩
  have e : decide ((0 : Int) < t) = true := decide_eq_true h3
  show Q (.bl (decide ((0 : Int) < t))) H1
  rw [e]
  exact q _ e1
/-! ### need_pairs -/
abbrev PL := List (Addr × (Rw × Int))
def refs (ps : PL) : List V := ps.map fun x => V.ref x.1
def PrsAt (n : Nat) (H : Hp) (ps : PL) : Prop := ∀ x, x ∈ ps → PrAt H x.1 x.2 ∧ x.2.1.length = n ∧ 0 < x.2.2
theorem PrsAt.mono {n : Nat} {H H' : Hp} {ps : PL} (h : PrsAt n H ps) (e : Ex H H') : PrsAt n H' ps := fun x hx => ⟨(h x hx).1.mono e, (h x hx).2⟩
theorem atI_0 {α : Type} {x : α} {xs : List α} : atI (x :: xs) 0 = some x := by
  unfold atI ixN
  simp
def spNeedP (n : Nat) : Sp := fun vs H Q _ => ∃ (c : Addr) (ps : PL), vs = [.ref c] ∧ H c = some (.tup (refs ps)) ∧ PrsAt n H ps ∧ 1 ≤ n ∧ n ≤ 3 ∧ ∀ H', Ex H H' → Q .non H'
theorem sc_need_pairs : FnScope ["pairs", "at", "pair"] ["pairs"] (defScope (Df.st .dneed_pairs)) := ⟨rfl, rfl, rfl, by decide +kernel, rfl, by decide +kernel, by decide +kernel⟩
theorem ok_need_pairs (T : Txt P K mg A B Z) (n : Nat) : FnR P w K mg base CX0 5 (A .dneed_pairs) (spNeedP n) := by
  refine (T.d0 .dneed_pairs).fn sc_need_pairs (fun _ _ _ _ _ _ us h => by obtain ⟨a, rfl⟩ := len1 h; rfl) (fun vs H Q E h => by obtain ⟨_, _, rfl, _⟩ := h; rfl) fun cdv Ar outer s H vs Q E hr h => ?_
  obtain ⟨c, ps, rfl, hc, hps, n1, n3, q⟩ := h
  have nd := sc_need_pairs.nd
  refine ⟨_, pss_one (ps_for PassesOwn.never rfl (pi_enumT (by rfl) (T.blt _ (by decide)) (pa_cons (pv 0) pa_nil)) (pg_tup rfl (pgs_cons (pg_name (i := 1) nd rfl (.inl rfl)) (pgs_cons (pg_name (i := 2) nd rfl (.inl rfl)) pgs_nil)))
    (pss_one (ps_if (PW.pt (pw_or (pt_not (pt_val (pe_fn (ok_is_pair T) hr rfl (T.gD .dis_pair rfl) (T.dk .dis_pair).kp (pa_cons (pv 2) pa_nil))))
      (pw_or1 (pt_cmpR op_ne (pe_callB call_len_seq rfl (T.blt _ (by decide)) PySem.boot_len (pa_cons (pe_ix ix_tup (pv 2) pe_int (fun _ _ => rfl)) pa_nil))
        (pe_callB call_len_seq rfl (T.blt _ (by decide)) PySem.boot_len (pa_cons (pe_ix ix_tup (pe_ix ix_tup (pv 0) pe_int (fun _ _ => rfl)) pe_int (fun _ _ => rfl)) pa_nil)) (nomark _))))) pss_never pss_nil))), ?_⟩
  refine ⟨_, rfl, c, _, rfl, SqT.of hc, for_it walk_enumT (fun i σ H' => (∃ z1 z2, σ = [some (.ref c), z1, z2]) ∧ Ex H H') ⟨⟨none, none, rfl⟩, Ex.refl H⟩ (fun i σ H' _ p => SqT.of (p.2 _ _ hc)) (fun i x σ H1 H2 hi p y => ?_) (fun σ H' p => q _ p.2)⟩
  obtain ⟨T2, z, hz, rfl, hT2, rfl⟩ := y
  obtain ⟨⟨z1, z2, rfl⟩, e1⟩ := p
  unfold refs at hz
  rw [List.getElem?_map] at hz
  obtain ⟨x, hx, rfl⟩ := Option.map_eq_some_iff.mp hz
  have hm := List.mem_of_getElem? hx
  have e2 : Ex H (upd H1 T2 (.tup [.int (i : Nat), .ref x.1])) := e1.trans (Ex.new hT2)
  obtain ⟨hp, hl, ht⟩ := hps x hm
  refine ⟨T2, _, rfl, SqT.of upd_same, rfl, _, _, rfl, _, _, rfl, rfl, ?_⟩
  refine ⟨_, rfl, x.1, x.2, rfl, hp.mono e2, by omega, by omega, ht, fun H3 e3 => ⟨true, rfl, iteF ?_⟩⟩
  have E3 := e2.trans e3
  obtain ⟨a, ha1, ha2⟩ := hp
  cases ps with
  | nil => cases hm
  | cons y ps =>
    obtain ⟨⟨a0, b1, b2⟩, hl0, _⟩ := hps y (List.mem_cons_self ..)
    refine ⟨_, rfl, x.1, _, 0, .ref a, rfl, rfl, SqT.of (E3 _ _ ha1), rfl, a, _, rfl, .inr (SqT.of (E3 _ _ ha2)), ?_⟩
    refine ⟨_, rfl, c, _, 0, .ref y.1, rfl, rfl, SqT.of (E3 _ _ hc), atI_0, y.1, _, 0, .ref a0, rfl, rfl, SqT.of (E3 _ _ b1), rfl, a0, _, rfl, .inr (SqT.of (E3 _ _ b2)), ?_⟩
    refine ⟨rfl, false, congrArg (fun b => V.bl (!b)) (decide_eq_true ?_), iteF ⟨⟨_, _, rfl⟩, E3⟩⟩
    rw [List.length_map, List.length_map, hl, hl0]
/-! ### ascending_rows -/
def RwsAt (H : Hp) (as : List Addr) : Prop := ∀ a, a ∈ as → ∃ r : Rw, H a = some (.tup (r.map oV))
def spAscR (K : PySem.W.Frag) : Sp := fun vs H Q _ => ∃ (l : Addr) (as : List Addr), vs = [.ref l] ∧ SqL K H l (as.map V.ref) ∧ RwsAt H as ∧ as.length ≤ 1000 ∧ ∀ p (bs : List Addr) H', Ex H H' → H' p = some (.lst (bs.map V.ref)) → bs.Perm as → Q (.ref p) H'
theorem sc_ascending_rows : FnScope ["rows", "found", "row", "spot", "one"] ["rows"] (defScope (Df.st .dascending_rows)) := ⟨rfl, rfl, rfl, by decide +kernel, rfl, by decide +kernel, by decide +kernel⟩
theorem ok_ascending_rows (T : Txt P K mg A B Z) : FnR P w K mg base CX0 3 (A .dascending_rows) (spAscR K) := by
  refine (T.d0 .dascending_rows).fn sc_ascending_rows (fun _ _ _ _ _ _ us h => by obtain ⟨a, rfl⟩ := len1 h; rfl) (fun vs H Q E h => by obtain ⟨_, _, rfl, _⟩ := h; rfl) fun cdv Ar outer s H vs Q E hr h => ?_
  obtain ⟨l, as, rfl, hl, ha, hn, q⟩ := h
  have nd := sc_ascending_rows.nd
  refine ⟨_, pss_cons (ps_set (i := 1) nd rfl (.inl rfl) (pe_lst pa_nil))
    (pss_cons (ps_for PassesOwn.never rfl (pi_list (pv 0)) (pg_name (i := 2) nd rfl (.inr rfl))
      (pss_cons (ps_set (i := 3) nd rfl (.inl rfl) (pe_callB call_len_seq rfl (T.blt _ (by decide)) PySem.boot_len (pa_cons
        (pe_lc (own := [("one", 4)]) (g := gName 4) rfl nd (pi_list (pv 1)) (blkOk_by (N := ["rows", "found", "row", "spot", "one"]) (sc := defScope (Df.st .dascending_rows)) (by decide +kernel))
          (fun _ _ _ _ _ => pg_name (i := 4) nd rfl (Or.inl rfl)) (fun _ _ _ _ _ => pts_one (pt_val (pe_fn (ok_is_ahead T) (by exact hr) rfl (T.gD .dis_ahead rfl) (T.dk .dis_ahead).kp (pa_cons (pv 4) (pa_cons (pv 2) pa_nil))))) (fun _ _ _ _ _ => pv 4)) pa_nil)))
      (pss_one (ps_expr (pe_bm PySem.F.plainAttrs_list PySem.F.slot_list_insert PySem.F.type_list_insert mt_insert (pv 1) (pa_cons (pv 3) (pa_cons (pv 2) pa_nil)))))))
    (pss_one (ps_ret (pv 1)))), ?_⟩
  refine ⟨Nat.zero_le _, fun p hp => ?_⟩
  have ne : ∀ {x : Addr} {o : HO}, H x = some o → x ≠ p := fun h z => by rw [z, hp] at h; cases h
  refine ⟨_, rfl, l, rfl, ⟨_, ex_l (Ex.new hp) hl⟩, for_it walk_list (fun i σ H' => (∃ z2 z3 z4, σ = [some (.ref l), some (.ref p), z2, z3, z4]) ∧ Ex H H' ∧ ∃ bs : List Addr, H' p = some (.lst (bs.map V.ref)) ∧ bs.Perm (as.take i)) ⟨⟨none, none, none, rfl⟩, Ex.new hp, [], upd_same, List.Perm.refl _⟩ (fun i σ H' _ q => ex_l q.2.1 hl) (fun i x σ H1 H2 hi q1 y => ?_) (fun σ H' q1 => ?_)⟩
  · obtain ⟨rfl, hx⟩ := y
    obtain ⟨⟨z2, z3, z4, rfl⟩, e1, bs, hb, pb⟩ := q1
    rw [List.getElem?_map] at hx
    obtain ⟨a, hxa, rfl⟩ := Option.map_eq_some_iff.mp hx
    have hm := List.mem_of_getElem? hxa
    obtain ⟨r, hr0⟩ := ha a hm
    have bl : bs.length ≤ 1000 := by have := pb.length_eq; rw [List.length_take] at this; omega
    refine ⟨_, rfl, p, rfl, ⟨_, SqL.of hb⟩, fun D hD => lc_it (walk_list (xs := bs.map V.ref)) (fun i H' => Ex H H' ∧ H' p = some (.lst (bs.map V.ref)) ∧ ∃ acc, H' D = some (.lst acc) ∧ acc.length ≤ i) ?_ (fun i H' _ q => SqL.of q.2.1) (fun j x H3 H4 hj q3 y => ?_) (fun H3 q3 => ?_)⟩
    · have nD : p ≠ D := fun z => by rw [← z, hb] at hD; cases hD
      exact ⟨e1.trans (Ex.new hD), by rw [upd_ne nD]; exact hb, [], upd_same, Nat.le_refl _⟩
    · obtain ⟨rfl, hx2⟩ := y
      obtain ⟨e3, hb3, acc, hA, al⟩ := q3
      rw [List.getElem?_map] at hx2
      obtain ⟨b, hxb, rfl⟩ := Option.map_eq_some_iff.mp hx2
      have hm2 : b ∈ as := List.mem_of_mem_take (pb.mem_iff.mp (List.mem_of_getElem? hxb))
      obtain ⟨r2, hr2⟩ := ha b hm2
      have nD : p ≠ D := fun z => by rw [← z, hb] at hD; cases hD
      have hD1 : H D = none := e1.free hD
      refine ⟨rfl, _, rfl, _, rfl, b, a, r2, r, rfl, SqT.of (e3 _ _ hr2), SqT.of (e3 _ _ hr0), fun c H5 e5 => ⟨c, rfl, ?_⟩⟩
      cases c with
      | true => exact iteT ⟨_, rfl, acc, e5 _ _ hA, by rw [List.length_map] at hj; rw [sizeLine_eq]; omega, Ex.mut (e3.trans e5) hD1, by rw [upd_ne nD]; exact e5 _ _ hb3, _, upd_same, by rw [List.length_append]; show acc.length + 1 ≤ j + 1; omega⟩
      | false => exact iteF ⟨e3.trans e5, e5 _ _ hb3, acc, e5 _ _ hA, by omega⟩
    obtain ⟨e3, hb3, acc, hA, al⟩ := q3
    rw [List.length_map] at al
    refine ⟨D, acc, rfl, .inl (SqL.of hA), ?_⟩
    refine ⟨_, rfl, .inl ⟨rfl, _, SqL.of hb3⟩, _, rfl, _, rfl, p, _, _, _, rfl, rfl, hb3, by rw [List.length_map, sizeLine_eq]; omega, by omega, by omega, ?_⟩
    refine ⟨⟨_, _, _, rfl⟩, Ex.mut e3 hp, bs.take acc.length ++ [a] ++ bs.drop acc.length, ?_, ?_⟩
    · rw [upd_same, Int.toNat_natCast, List.map_append, List.map_append, List.map_take, List.map_drop]
      rfl
    · rw [List.take_succ, hxa]
      refine List.Perm.trans ?_ ((pb.append_right [a]))
      have h1 : (bs.take acc.length ++ [a] ++ bs.drop acc.length).Perm (bs.take acc.length ++ (bs.drop acc.length ++ [a])) := by
        rw [List.append_assoc]
        exact (List.perm_append_comm).append_left _
      rw [← List.append_assoc, List.take_append_drop] at h1
      exact h1
  · obtain ⟨⟨z2, z3, z4, rfl⟩, e1, bs, hb, pb⟩ := q1
    rw [List.length_map, List.take_length] at pb
    exact ⟨_, rfl, q p bs H' e1 hb pb⟩
end
end Hs
set_option Elab.async false
set_option linter.all false
set_option maxRecDepth 100000
set_option maxHeartbeats 4000000
/-! joined_pairs. -/
namespace Hs
open PySem PySem.Spec PyProof.Rows L2
section
variable {P : Program} {w : World} {K : PySem.W.Frag} {mg : Str → Option Value} {base : Heap} {A : Df → Addr} {B Z : Cl → Addr}
structure JoinOk (ps : PL) (es : List E3) : Prop where
  eqv : Eqv (tabE es) (ps.map (·.2))
  pos : ∀ e, e ∈ es → 0 < e.2.2
  row : ∀ e, e ∈ es → ∃ x, x ∈ ps ∧ x.2.1 = e.2.1
  len : es.length ≤ ps.length
  nd : (keysE es).Nodup
def spJP (P : Program) (w : World) (n : Nat) : Sp := fun vs H Q _ => ∃ (c : Addr) (ps : PL), vs = [.ref c] ∧ H c = some (.tup (refs ps)) ∧ PrsAt n H ps ∧ ps.length ≤ 40 ∧ ∀ d es H', Ex H H' → TD P w H' d (es.map ent) → JoinOk ps es → Q (.ref d) H'
theorem sc_joined_pairs : FnScope ["pairs", "found", "row", "times"] ["pairs"] (defScope (Df.st .djoined_pairs)) := ⟨rfl, rfl, rfl, by decide +kernel, rfl, by decide +kernel, by decide +kernel⟩
theorem nil_ok : JoinOk [] [] := ⟨Eqv.refl _, (fun e h => nomatch h), (fun e h => nomatch h), Nat.le_refl _, List.nodup_nil⟩
theorem JoinOk.step {ps : PL} {es : List E3} {b a : Addr} {r : Rw} {t : Int} (h : JoinOk ps es) (ht : 0 < t) : JoinOk (ps ++ [(b, (r, t))]) (setE es r a ((valE es r).getD 0 + t)) := by
  have hv : 0 ≤ (valE es r).getD 0 := by
    cases hv : valE es r with
    | none => exact Int.le_refl _
    | some v =>
      obtain ⟨c, hc⟩ := val_pos hv
      exact Int.le_of_lt (h.pos _ hc)
  refine ⟨?_, fun e he => ?_, fun e he => ?_, ?_, set_nd h.nd⟩
  · rw [List.map_append]
    exact (set_eqv h.nd).trans (h.eqv.app (Eqv.refl _))
  · rcases set_mem he with rfl | ⟨b, rfl, u, _⟩ | he
    · show 0 < (valE es r).getD 0 + t; omega
    · show 0 < (valE es r).getD 0 + t; omega
    · exact h.pos e he
  · rcases set_mem he with rfl | ⟨c, rfl, u, _⟩ | he
    · exact ⟨(b, (r, t)), by simp, rfl⟩
    · exact ⟨(b, (r, t)), by simp, rfl⟩
    · obtain ⟨x, hx, e⟩ := h.row e he
      exact ⟨x, List.mem_append_left _ hx, e⟩
  · rw [List.length_append]
    have := set_len es r a ((valE es r).getD 0 + t)
    have := h.len
    show _ ≤ ps.length + 1
    omega
theorem JoinOk.perm {ps : PL} {es es' : List E3} (h : JoinOk ps es) (p : es'.Perm es) : JoinOk ps es' :=
  ⟨(Eqv.perm (p.map _)).trans h.eqv, fun e he => h.pos e (p.mem_iff.mp he), fun e he => h.row e (p.mem_iff.mp he), by rw [p.length_eq]; exact h.len, (p.map _).symm.nodup h.nd⟩
/-- a permutation of the addresses is one of the entries -/
theorem perm_of {es : List E3} {bs : List Addr} (p : bs.Perm (es.map (·.1))) : ∃ es' : List E3, es'.Perm es ∧ es'.map (·.1) = bs := by
  induction bs generalizing es with
  | nil =>
    have : es = [] := List.map_eq_nil_iff.mp p.nil_eq.symm
    exact ⟨[], by rw [this], rfl⟩
  | cons b bs ih =>
    have hb : b ∈ es.map (·.1) := p.mem_iff.mp (List.mem_cons_self ..)
    obtain ⟨e, he, rfl⟩ := List.mem_map.mp hb
    obtain ⟨l1, l2, rfl⟩ := List.append_of_mem he
    have p2 : (e.1 :: bs).Perm (e.1 :: (l1 ++ l2).map (·.1)) := p.trans ((List.perm_middle (a := e) (l₁ := l1) (l₂ := l2)).map (·.1))
    obtain ⟨es', h1, h2⟩ := ih ((List.perm_cons _).mp p2)
    exact ⟨e :: es', (h1.cons e).trans List.perm_middle.symm, by rw [List.map_cons, h2]⟩
theorem ok_joined_pairs (T : Txt P K mg A B Z) (n : Nat) : FnR P w K mg base CX0 4 (A .djoined_pairs) (spJP P w n) := by
  refine (T.d0 .djoined_pairs).fn sc_joined_pairs (fun _ _ _ _ _ _ us h => by obtain ⟨a, rfl⟩ := len1 h; rfl) (fun vs H Q E h => by obtain ⟨_, _, rfl, _⟩ := h; rfl) fun cdv Ar outer s H vs Q E hr h => ?_
  obtain ⟨c, ps, rfl, hc, hps, pl, q⟩ := h
  have nd := sc_joined_pairs.nd
  have hu2 : ∀ {x : Nat}, x + 64 < cLine → x + 2 < cLine := fun h => by omega
  obtain ⟨t1, t2, t3, t4, t5, t6, t7, m1, m2, m3, m4, m5, m6, m7⟩ := T.gMost
  refine ⟨_, pss_cons (ps_set (i := 1) nd rfl (.inr rfl) (pe_tnew (j := [])))
    (pss_cons (ps_for PassesOwn.never rfl (pi_tup (pv 0)) (pg_tup rfl (pgs_cons (pg_name (i := 2) nd rfl (.inl rfl)) (pgs_cons (pg_name (i := 3) nd rfl (.inl rfl)) pgs_nil)))
      (pss_one (ps_asg (pe_op op_add (pe_mG ty_td PySem.F.plainAttrs_dict PySem.F.slot_dict_get PySem.F.type_dict_get (mt_tget (hu2 hr.units)) (pv 1) (pa_cons (pv 2) (pa_cons pe_int pa_nil))) (pv 3)) (pg_sub (pv 1) (pv 2) (set_td (hu2 hr.units))))))
    (pss_cons (ps_if (pt_cmpR op_gt (pe_callB call_tlen rfl (T.blt _ (by decide)) PySem.boot_len (pa_cons (pv 1) pa_nil)) (pe_glob (v := .int 40) rfl m5 ⟨_, rfl⟩) (nomark _)) pss_never pss_nil)
    (pss_one (ps_ret (pe_tc (own := [("row", 2)]) (g := gName 2) (tt := tYes) (tv := tTIx P w (tVar 1) (tVar 2)) (hu2 hr.units) rfl nd (pi_list (pe_fn (ok_ascending_rows T) hr rfl (T.gD .dascending_rows rfl) (T.dk .dascending_rows).kp (pa_cons (pe_callTy (call_tlist rfl) rfl (T.blt _ (by decide)) (by decide +kernel) (pa_cons (pv 1) pa_nil)) pa_nil)))
      (blkOk_by (N := ["pairs", "found", "row", "times"]) (sc := defScope (Df.st .djoined_pairs)) (by decide +kernel)) (fun _ _ _ _ _ => pg_name (i := 2) nd rfl (Or.inl rfl)) (fun _ _ _ _ _ => pts_nil) (fun _ _ _ _ _ => pv 2) (fun _ _ _ _ _ => pe_tix (hu2 hr.units) (pv 1) (pv 2) (fun _ _ => rfl))))))), ?_⟩
  intro d hd Hn hn T0
  have eN : Ex H Hn := fun x o h => by rw [hn x (ne_of_none h hd)]; exact h
  refine ⟨_, rfl, c, rfl, ⟨_, SqT.of (eN _ _ hc)⟩, for_it walk_tup (fun i σ H1 => (∃ z2 z3, σ = [some (.ref c), some (.ref d), z2, z3]) ∧ Ex H H1 ∧ ∃ es : List E3, TD P w H1 d (es.map ent) ∧ JoinOk (ps.take i) es) ⟨⟨none, none, rfl⟩, eN, [], T0, nil_ok⟩ (fun i σ H1 _ q => SqT.of (q.2.1 _ _ hc)) (fun i x σ H1 H2 hi q1 y => ?_) (fun σ H1 q1 => ?_)⟩
  · obtain ⟨rfl, hx⟩ := y
    obtain ⟨⟨z2, z3, rfl⟩, e1, es, T1, J1⟩ := q1
    unfold refs at hx
    rw [List.getElem?_map] at hx
    obtain ⟨x, hxa, rfl⟩ := Option.map_eq_some_iff.mp hx
    obtain ⟨b, r, t⟩ := x
    obtain ⟨⟨a, ha1, ha2⟩, hl, ht⟩ := hps _ (List.mem_of_getElem? hxa)
    have ha3 : H2 a = some (.tup ((lf r).map lV)) := by rw [lf_V]; exact e1 _ _ ha2
    refine ⟨b, _, rfl, SqT.of (e1 _ _ ha1), rfl, _, _, rfl, _, _, rfl, rfl, ?_⟩
    have ev : (tat (es.map ent) (lf r)).getD (.int 0) = .int ((valE es r).getD 0) := by
      rw [tat_ent]
      cases valE es r <;> rfl
    refine ⟨_, rfl, ⟨d, _, rfl, T1⟩, _, rfl, d, a, lf r, .int 0, _, rfl, rfl, T1, ha3, _, rfl, _, _, ev, rfl, ?_⟩
    have el : es.length < sizeLine := by
      have := J1.len
      rw [List.length_take] at this
      rw [sizeLine_eq]; omega
    refine ⟨_, rfl, _, rfl, d, a, lf r, _, rfl, rfl, T1, ha3, by rw [List.length_map]; exact el, fun H' n => ⟨⟨_, _, rfl⟩, fun x o h => by rw [n.1 x (ne_of_none h hd)]; exact e1 _ _ h, setE es r a ((valE es r).getD 0 + t), ?_, by rw [List.take_succ, hxa]; exact J1.step ht⟩⟩
    have t' := n.td T1 ha3
    rw [tst_ent] at t'
    exact t'
  obtain ⟨⟨z2, z3, rfl⟩, e1, es, T1, J1⟩ := q1
  unfold refs at J1
  rw [List.length_map, List.take_length] at J1
  have el := J1.len
  refine ⟨_, rfl, d, _, rfl, T1, _, _, rfl, rfl, false, congrArg V.bl (decide_eq_false (by rw [List.length_map]; omega)), iteF ?_⟩
  refine ⟨_, rfl, d, _, rfl, T1, fun p hp => ?_⟩
  have e2 := e1.trans (Ex.new (o := .lst ((es.map ent).map fun x => V.ref x.2.1)) hp)
  have eas : (es.map ent).map (fun x => V.ref x.2.1) = (es.map (·.1)).map V.ref := by
    rw [List.map_map, List.map_map]; rfl
  have T2 := T1.mono (Ex.new (o := .lst ((es.map ent).map fun x => V.ref x.2.1)) hp)
  rw [eas] at e2 T2 ⊢
  generalize hH2 : upd H1 p (.lst ((es.map (·.1)).map V.ref)) = H2 at e2 T2
  have hkey : ∀ e, e ∈ es → H2 e.1 = some (.tup ((lf e.2.1).map lV)) := fun e he => T2.key (ent e) (List.mem_map_of_mem he)
  refine ⟨p, es.map (·.1), rfl, SqL.of (by rw [← hH2]; exact upd_same), fun a ha => ?_, by rw [List.length_map]; omega, fun p3 bs H3 e3 h3 pm => ?_⟩
  · obtain ⟨e, he, rfl⟩ := List.mem_map.mp ha
    exact ⟨e.2.1, by rw [← lf_V]; exact hkey e he⟩
  obtain ⟨es', pe, rfl⟩ := perm_of pm
  have J3 := J1.perm pe
  have T3 := T2.mono e3
  have eas' : (es'.map (·.1)).map V.ref = es'.map fun e => V.ref e.1 := by rw [List.map_map]; rfl
  rw [eas'] at h3
  refine ⟨p3, rfl, ⟨_, SqL.of h3⟩, fun D Hm hD hm T0 => ?_⟩
  have e4 : Ex H3 Hm := fun x o h => by rw [hm x (ne_of_none h hD)]; exact h
  have dD : d ≠ D := fun z => by
    obtain ⟨⟨od, h, _⟩, _⟩ := T3
    rw [z, hD] at h
    cases h
  refine tc_it (walk_list (xs := es'.map fun e => V.ref e.1)) (fun i H4 => Ex H3 H4 ∧ TD P w H4 D ((es'.take i).map ent)) ⟨e4, T0⟩ (fun i H4 _ q => SqL.of (q.1 _ _ h3)) (fun i x H4 H5 hi q4 y => ?_) (fun H4 q4 => ?_)
  · obtain ⟨rfl, hx⟩ := y
    rw [List.getElem?_map] at hx
    obtain ⟨e, hxe, rfl⟩ := Option.map_eq_some_iff.mp hx
    have he := List.mem_of_getElem? hxe
    have hk := q4.1 _ _ (e3 _ _ (hkey e (pe.mem_iff.mp he)))
    refine ⟨rfl, _, rfl, _, rfl, _, rfl, d, e.1, lf e.2.1, _, .int e.2.2, rfl, rfl, T3.mono q4.1, hk, by rw [tat_ent, val_at J1.nd (pe.mem_iff.mp he)]; rfl, e.1, lf e.2.1, _, rfl, q4.2, hk, ?_, fun H6 n6 => ⟨fun x o h => by rw [n6.1 x (ne_of_none h hD)]; exact q4.1 _ _ h, ?_⟩⟩
    · rw [List.length_map, List.length_take, sizeLine_eq]
      have := J3.len
      omega
    · have t6 := n6.td q4.2 hk
      rw [tst_ent] at t6
      have hn : e.2.1 ∉ keysE (es'.take i) := fun hm => by
        have nd3 := J3.nd
        rw [← List.take_append_drop i es', keysE, List.map_append] at nd3
        have hd3 := (List.nodup_append.mp nd3).2.2
        have hmem : e ∈ es'.drop i := by
          have hli : i < es'.length := by
            rcases Nat.lt_or_ge i es'.length with h | h
            · exact h
            · rw [List.getElem?_eq_none h] at hxe; cases hxe
          rw [List.drop_eq_getElem_cons hli]
          rw [List.getElem?_eq_getElem hli] at hxe
          rw [← Option.some.inj hxe]
          exact List.mem_cons_self ..
        exact hd3 _ hm _ (List.mem_map.mpr ⟨e, hmem, rfl⟩) rfl
      unfold setE at t6
      rw [val_none hn, if_neg (by simp)] at t6
      rw [List.take_succ, hxe]
      exact t6
  · rw [List.length_map, List.take_length] at q4
    exact q D es' H4 ((e2.trans e3).trans q4.1) q4.2 J3
end
end Hs
set_option Elab.async false
set_option linter.all false
set_option maxRecDepth 100000
set_option maxHeartbeats 4000000
/-! Lots. -/
namespace Hs
open PySem PySem.Spec PyProof.Rows L2
def lotF (d : Addr) (m wd : Int) : List (Str × V) := [("own_table", .ref d), ("rows", .int m), ("width", .int wd)]
structure TabOk (n : Nat) (T : Tab) : Prop where
  pos : AllPos T
  len : ∀ p, p ∈ T → p.1.length = n
  big : ∀ p, p ∈ T → ∀ v, some v ∈ p.1 → v.natAbs < 2 ^ 70
  num : T.length ≤ 20
  tot : mu T (fun _ => 1) < 2 ^ 100
def LotsAt (P : Program) (w : World) (B : Cl → Addr) (n : Nat) (H : Hp) (T : Tab) (p : Addr) : Prop :=
  ∃ dx d wd es, H p = some (.ins (B .cLots) dx (lotF d (mu T fun _ => 1) wd)) ∧ TD P w H d (es.map ent) ∧ tabE es = T ∧ TabOk n T ∧ (wd = (n : Int) ∨ wd = 0)
section
variable {P : Program} {w : World} {K : PySem.W.Frag} {mg : Str → Option Value} {base : Heap} {A : Df → Addr} {B Z : Cl → Addr}
theorem LotsAt.mono {n : Nat} {H H' : Hp} {T : Tab} {p : Addr} (h : LotsAt P w B n H T p) (e : Ex H H') : LotsAt P w B n H' T p := by
  obtain ⟨dx, d, wd, es, h1, h2, h3⟩ := h
  exact ⟨dx, d, wd, es, e _ _ h1, h2.mono e, h3⟩
theorem TD.exb {H H' : Hp} {d p C dx : Addr} {fs : List (Str × V)} {xs : List Ent} (T : TD P w H d xs) (e : ExB p H H') (hp : H p = some (.ins C dx fs)) : TD P w H' d xs := by
  obtain ⟨⟨od, h1, h2⟩, h3⟩ := T
  refine ⟨⟨od, e _ _ (fun z => by rw [z, hp] at h1; cases h1) h1, h2⟩, fun x hx => e _ _ (fun z => ?_) (h3 x hx)⟩
  have := h3 x hx
  rw [z, hp] at this
  cases this
theorem tab_of {n : Nat} {ps : PL} {es : List E3} (h : JoinOk ps es) (ok : TabOk n (ps.map (·.2))) : TabOk n (tabE es) := by
  have row : ∀ p, p ∈ tabE es → ∃ x, x ∈ ps.map (·.2) ∧ x.1 = p.1 := fun p hp => by
    obtain ⟨e, he, rfl⟩ := List.mem_map.mp hp
    obtain ⟨x, hx, e2⟩ := h.row e he
    exact ⟨x.2, List.mem_map_of_mem hx, e2⟩
  refine ⟨fun p hp => ?_, fun p hp => ?_, fun p hp v hv => ?_, ?_, ?_⟩
  · obtain ⟨e, he, rfl⟩ := List.mem_map.mp hp
    exact h.pos e he
  · obtain ⟨x, hx, e⟩ := row p hp
    rw [← e]; exact ok.len x hx
  · obtain ⟨x, hx, e⟩ := row p hp
    exact ok.big x hx v (by rw [e]; exact hv)
  · unfold tabE
    have := ok.num
    rw [List.length_map] at this ⊢
    have := h.len
    omega
  · rw [h.eqv]; exact ok.tot
theorem sum_mu : ∀ es : List E3, (es.map (·.2.2)).sum = mu (tabE es) fun _ => 1
  | [] => rfl
  | e :: es => by
    rw [List.map_cons, List.sum_cons, sum_mu es]
    show _ = mu (e.2 :: tabE es) _
    rw [mu_cons]
    omega
def spLoI0 (P : Program) (w : World) (B : Cl → Addr) (n : Nat) : Sp := fun vs H Q _ => ∃ (p dx c : Addr) (ps : PL), vs = [.ref p, .ref c] ∧ H p = some (.ins (B .cLots) dx []) ∧ H c = some (.tup (refs ps)) ∧ PrsAt n H ps ∧ TabOk n (ps.map (·.2)) ∧ 1 ≤ n ∧ n ≤ 3 ∧
  ∀ H' T, ExB p H H' → LotsAt P w B n H' T p → Eqv T (ps.map (·.2)) → T.length ≤ ps.length → Q .non H'
theorem sc_LoI : FnScope ["self", "pairs", "row"] ["self", "pairs"] (defScope (Df.st .dLots_init)) := ⟨rfl, rfl, rfl, by decide +kernel, rfl, by decide +kernel, by decide +kernel⟩
theorem ok_LoI0 (T : Txt P K mg A B Z) (n : Nat) : FnR P w K mg base CX0 6 (A .dLots_init) (fun vs H Q E => ∃ ws rest, vs = ws ++ rest ∧ ws.length = 1 ∧ rest.length ≤ sizeLine ∧ ∀ p, H p = Option.none → spLoI0 P w B n (ws ++ [V.ref p]) (upd H p (.tup rest)) Q E) := by
  refine (T.d0 .dLots_init).fnStar (ps := ["self"]) (pv := "pairs") sc_LoI (fun _ _ _ _ _ _ us rest h => by obtain ⟨a, rfl⟩ := len1 h; cases rest <;> rfl) fun cdv Ar outer s H vs Q E hr h => ?_
  obtain ⟨p, dx, c, ps, rfl, hp, hc, hps, tok, n1, n3, q⟩ := h
  have nd := sc_LoI.nd
  have hu2 : ∀ {x : Nat}, x + 64 < cLine → x + 2 < cLine := fun h => by omega
  have hr4 : Room 4 _ := hr.mono (j := 4) (by decide)
  refine ⟨_, pss_cons (ps_expr (pe_fn (ok_need_pairs T n) hr rfl (T.gD .dneed_pairs rfl) (T.dk .dneed_pairs).kp (pa_cons (pv 1) pa_nil)))
    (pss_cons (ps_fld (pv 0) (pe_fn (ok_joined_pairs T n) hr4 rfl (T.gD .djoined_pairs rfl) (T.dk .djoined_pairs).kp (pa_cons (pv 1) pa_nil)) rfl)
    (pss_cons (ps_fld (pv 0) (pe_callB (cr_sum rfl) rfl (T.blt _ (by decide)) (by decide +kernel) (pa_cons (pe_lc (own := [("row", 2)]) (te := tTIx P w (tFld K (tVar 0) "own_table") (tVar 2)) (g := gName 2) (tt := tYes) rfl nd (pi_tk (pe_fld (pv 0) rfl)) (blkOk_by (N := ["self", "pairs", "row"]) (sc := defScope (Df.st .dLots_init)) (by decide +kernel))
        (fun _ _ _ _ _ => pg_name (i := 2) nd rfl (Or.inl rfl)) (fun _ _ _ _ _ => pts_nil) (fun _ _ _ _ _ => pe_tix (hu2 hr.units) (pe_fld (pv 0) rfl) (pv 2) (fun _ _ => rfl))) pa_nil)) rfl)
    (pss_one (ps_fld (pv 0) (pe_ifExp (pt_cmpR op_gt (pe_callB call_len_seq rfl (T.blt _ (by decide)) PySem.boot_len (pa_cons (pv 1) pa_nil)) pe_int (nomark _))
      (pe_callB call_len_seq rfl (T.blt _ (by decide)) PySem.boot_len (pa_cons (pe_ix ix_tup (pe_ix ix_tup (pv 1) pe_int (fun _ _ => rfl)) pe_int (fun _ _ => rfl)) pa_nil)) pe_int) rfl)))), ?_⟩
  have hcl : Cls K (B .cLots) := T.cls _
  have kk : ps.length ≤ 20 := by have := tok.num; rwa [List.length_map] at this
  refine ⟨_, rfl, c, ps, rfl, hc, hps, n1, n3, fun H1 e1 => ?_⟩
  refine ⟨_, rfl, c, ps, rfl, e1 _ _ hc, hps.mono e1, by omega, fun d es H2 e2 T2 J2 => ?_⟩
  have E2 := e1.trans e2
  have tok2 := tab_of J2 tok
  have hp2 := E2 _ _ hp
  refine ⟨_, rfl, p, _, dx, _, rfl, hp2, hcl, T.no _ _ (by decide), (by show 0 < 1000; decide), ?_⟩
  generalize hH3 : upd H2 p (.ins (B .cLots) dx (putF "own_table" (.ref d) [])) = H3
  have b3 : ExB p H2 H3 := by rw [← hH3]; exact (ExB.refl p H2).put
  have hp3 : H3 p = some (.ins (B .cLots) dx [("own_table", .ref d)]) := by rw [← hH3, upd_same]; rfl
  have T3 := T2.exb b3 hp2
  obtain ⟨od, hod, tdo⟩ := T3.at_
  have el : es.length ≤ 20 := by have := J2.len; omega
  refine ⟨_, rfl, p, _, dx, _, _, rfl, hp3, hcl, T.no _ _ (by decide), rfl, d, od, _, rfl, hod, tdo, fun D hD => lc_it (walk_tkA (d := d) (od := od) (es := es.map ent)) (fun i H' => Ex H3 H' ∧ H' D = some (.lst ((es.take i).map fun e => V.int e.2.2))) ⟨Ex.new hD, upd_same⟩ (fun i H' _ q => q.1 _ _ hod) (fun i x H4 H5 hi q4 y => ?_) (fun H4 q4 => ?_)⟩
  · obtain ⟨rfl, hx⟩ := y
    rw [List.map_map, List.getElem?_map] at hx
    obtain ⟨e, hxe, rfl⟩ := Option.map_eq_some_iff.mp hx
    have he := List.mem_of_getElem? hxe
    have hk := q4.1 _ _ (T3.key (ent e) (List.mem_map_of_mem he))
    refine ⟨rfl, _, rfl, p, _, dx, _, _, rfl, q4.1 _ _ hp3, hcl, T.no _ _ (by decide), rfl, _, rfl, d, e.1, lf e.2.1, _, .int e.2.2, rfl, rfl, T3.mono q4.1, hk, by rw [tat_ent, val_at J2.nd he]; rfl, _, q4.2, ?_, Ex.mut q4.1 hD, ?_⟩
    · rw [List.length_map, List.length_take, sizeLine_eq]; omega
    · rw [upd_same, List.take_succ, hxe, List.map_append]; rfl
  rw [List.length_map, List.length_map, List.take_length] at q4
  obtain ⟨e4, hD4⟩ := q4
  refine ⟨D, es.map (·.2.2), rfl, SqL.of (by rw [hD4, List.map_map]; rfl), ?_⟩
  rw [sum_mu]
  have hp4 := e4 _ _ hp3
  refine ⟨_, rfl, p, _, dx, _, rfl, hp4, hcl, T.no _ _ (by decide), (by show 1 < 1000; decide), ?_⟩
  generalize hm : mu (tabE es) (fun _ => 1) = m
  generalize hH5 : upd H4 p (.ins (B .cLots) dx (putF "rows" (.int m) [("own_table", .ref d)])) = H5
  have b5 : ExB p H4 H5 := by rw [← hH5]; exact (ExB.refl p H4).put
  have hp5 : H5 p = some (.ins (B .cLots) dx [("own_table", .ref d), ("rows", .int m)]) := by rw [← hH5, upd_same]; rfl
  have cp : c ≠ p := fun z => by rw [z, hp] at hc; cases hc
  have B5 : ExB p H H5 := (((ex_b E2).trans b3).ex e4).trans b5
  have hc5 : H5 c = some (.tup (refs ps)) := B5 _ _ cp hc
  have T5 := (T3.mono e4).exb b5 hp4
  have fin : ∀ wd : Int, (wd = (n : Int) ∨ wd = 0) → Q .non (upd H5 p (.ins (B .cLots) dx (putF "width" (.int wd) [("own_table", .ref d), ("rows", .int m)]))) := fun wd hw =>
    q _ (tabE es) B5.put ⟨dx, d, wd, es, by rw [upd_same, hm]; rfl, T5.exb (ExB.refl p H5).put hp5, rfl, tok2, hw⟩ J2.eqv (by unfold tabE; rw [List.length_map]; exact J2.len)
  cases ps with
  | nil =>
    refine ⟨_, rfl, c, _, rfl, .inr (SqT.of hc5), _, 0, rfl, rfl, false, rfl, iteF ?_⟩
    exact ⟨_, rfl, p, _, dx, _, rfl, hp5, hcl, T.no _ _ (by decide), (by show 2 < 1000; decide), fin 0 (.inr rfl)⟩
  | cons x ps =>
    obtain ⟨⟨a, ha1, ha2⟩, hl, _⟩ := hps x (List.mem_cons_self ..)
    have nx : ∀ {z : Addr} {xs}, H z = some (.tup xs) → z ≠ p := fun h z => by rw [z, hp] at h; cases h
    refine ⟨_, rfl, c, _, rfl, .inr (SqT.of hc5), _, 0, rfl, rfl, true, congrArg V.bl (decide_eq_true (by unfold refs; rw [List.length_map, List.length_cons]; omega)), iteT ?_⟩
    refine ⟨_, rfl, c, _, 0, .ref x.1, rfl, rfl, SqT.of hc5, atI_0, x.1, _, 0, .ref a, rfl, rfl, SqT.of (B5 _ _ (nx ha1) ha1), rfl, a, _, rfl, .inr (SqT.of (B5 _ _ (nx ha2) ha2)), ?_⟩
    exact ⟨_, rfl, p, _, dx, _, rfl, hp5, hcl, T.no _ _ (by decide), (by show 2 < 1000; decide), fin _ (.inl (by rw [List.length_map, hl]))⟩
/-- Lots( *pairs) -/
def spLoI (P : Program) (w : World) (B : Cl → Addr) (n : Nat) : Sp := fun vs H Q _ => ∃ (p dx : Addr) (ps : PL), vs = .ref p :: refs ps ∧ H p = some (.ins (B .cLots) dx []) ∧ PrsAt n H ps ∧ TabOk n (ps.map (·.2)) ∧ 1 ≤ n ∧ n ≤ 3 ∧
  ∀ H' T, ExB p H H' → LotsAt P w B n H' T p → Eqv T (ps.map (·.2)) → T.length ≤ ps.length → Q .non H'
theorem ok_LoI (T : Txt P K mg A B Z) (n : Nat) : FnR P w K mg base CX0 6 (A .dLots_init) (spLoI P w B n) := by
  refine (ok_LoI0 T n).imp fun vs H Q E h => ?_
  obtain ⟨p, dx, ps, rfl, hp, hps, tok, n1, n3, q⟩ := h
  have kk : ps.length ≤ 20 := by have := tok.num; rwa [List.length_map] at this
  refine ⟨[.ref p], refs ps, rfl, rfl, by unfold refs; rw [List.length_map, sizeLine_eq]; omega, fun t ht => ?_⟩
  have e : Ex H (upd H t (.tup (refs ps))) := Ex.new ht
  exact ⟨p, dx, t, ps, rfl, e _ _ hp, upd_same, hps.mono e, tok, n1, n3, fun H' T eb hT he hl => q H' T ((ex_b e).trans eb) hT he hl⟩
end
end Hs
set_option Elab.async false
set_option linter.all false
set_option maxRecDepth 100000
set_option maxHeartbeats 4000000
/-! Lots: iter, len, +. -/
namespace Hs
open PySem PySem.Spec PyProof.Rows L2
section
variable {P : Program} {w : World} {K : PySem.W.Frag} {mg : Str → Option Value} {base : Heap} {A : Df → Addr} {B Z : Cl → Addr}
def GoodL (B : Cl → Addr) (C : Addr) : Prop := C = B .cLots
theorem sc_it : FnScope ["self"] ["self"] (defScope (Df.st .dLots_iter)) := ⟨rfl, rfl, rfl, by decide +kernel, rfl, by decide +kernel, by decide +kernel⟩
theorem ok_it (T : Txt P K mg A B Z) : FnI P w K mg base 1 (A .dLots_iter) (spIter P w "own_table" (GoodL B)) := by
  refine (T.d0 .dLots_iter).fnI sc_it (fun _ _ _ _ _ _ us h => by obtain ⟨a, rfl⟩ := len1 h; rfl) (fun n vs H Q E h => by obtain ⟨_, _, _, _, _, _, rfl, _⟩ := h; rfl) fun cdv Ar outer s H vs Q E hr h => ?_
  obtain ⟨p, C, dx, fs, d, xs, rfl, hp, rfl, hl, hT, q⟩ := h
  refine ⟨_, pss_one (ps_ret (pe_callB call_titer rfl (T.blt _ (by decide)) (by decide +kernel) (pa_cons (pe_mG0 ty_td PySem.F.plainAttrs_dict PySem.F.slot_dict_items PySem.F.type_dict_items mt_titems (pe_fld (pv 0) rfl)) pa_nil))), ?_⟩
  refine ⟨_, rfl, p, _, dx, _, _, rfl, hp, T.cls _, T.no _ _ (by decide), hl, ⟨d, xs, rfl, hT⟩, d, xs, rfl, rfl, hT, fun v hv => ?_⟩
  have e1 : Ex H (upd H v (exO v (viewObj d))) := Ex.new hv
  refine ⟨v, d, xs, rfl, upd_same, hT.mono e1, fun it od es ep hit hn hod hdt => ?_⟩
  obtain ⟨od2, h2, _⟩ := hT.at_
  have e := e1 _ _ h2
  rw [hod] at e
  have eo : H d = some (exO d od) := by rw [h2, ← e]
  exact q it _ od es ep hn (e1.free hit) (e1.trans (Ex.new hit)) eo hdt upd_same
theorem sc_ll : FnScope ["self"] ["self"] (defScope (Df.st .dLots_len)) := ⟨rfl, rfl, rfl, by decide +kernel, rfl, by decide +kernel, by decide +kernel⟩
theorem ok_ll (T : Txt P K mg A B Z) : FnR P w K mg base CX0 1 (A .dLots_len) (spLen P w "own_table" (GoodL B)) := by
  refine (T.d0 .dLots_len).fn sc_ll (fun _ _ _ _ _ _ us h => by obtain ⟨a, rfl⟩ := len1 h; rfl) (fun vs H Q E h => by obtain ⟨_, _, _, _, _, _, rfl, _⟩ := h; rfl) fun cdv Ar outer s H vs Q E hr h => ?_
  obtain ⟨p, C, dx, fs, d, xs, rfl, hp, rfl, hl, hT, q⟩ := h
  refine ⟨_, pss_one (ps_ret (pe_callB call_tlen rfl (T.blt _ (by decide)) PySem.boot_len (pa_cons (pe_fld (pv 0) rfl) pa_nil))), ?_⟩
  exact ⟨_, rfl, p, _, dx, _, _, rfl, hp, T.cls _, T.no _ _ (by decide), hl, d, xs, rfl, hT, q H (Ex.refl H)⟩
theorem iter_ok (T : Txt P K mg A B Z) {X : Cx} (hX : X.prog = P ∧ X.w = w ∧ X.K = K ∧ X.mg = mg ∧ X.base = base) : IterOk X "own_table" 1 (GoodL B) := by
  obtain ⟨rfl, rfl, rfl, rfl, rfl⟩ := hX
  rintro C rfl
  exact ⟨A .dLots_iter, T.fnd .cLots .miter _ rfl, T.isF _, ok_it T⟩
theorem len_ok (T : Txt P K mg A B Z) {X : Cx} (hX : X.prog = P ∧ X.w = w ∧ X.K = K ∧ X.mg = mg ∧ X.base = base) : LenOk X "own_table" 1 (GoodL B) := by
  obtain ⟨rfl, rfl, rfl, rfl, rfl⟩ := hX
  rintro C rfl
  exact ⟨A .dLots_len, T.fnd .cLots .mlen _ rfl, T.isF _, ok_ll T⟩
/-- the pairs that a contents' list is made of -/
theorem pairs_of {H : Hp} : ∀ {es : List E3} {as : List Addr}, Paired (fun (t : Addr) (e : Ent) => H t = some (.tup [.ref e.2.1, e.2.2])) as (es.map ent) → (∀ e, e ∈ es → H e.1 = some (.tup (e.2.1.map oV))) →
    ∃ ps : PL, ps.map (·.1) = as ∧ ps.map (·.2) = tabE es ∧ ∀ x, x ∈ ps → PrAt H x.1 x.2
  | [], as, h, _ => by cases h; exact ⟨[], rfl, rfl, (fun x h => nomatch h)⟩
  | e :: es, as, h, hk => by
    cases h with
    | @cons a _ as _ h1 h2 =>
      obtain ⟨ps, p1, p2, p3⟩ := pairs_of h2 fun x hx => hk x (List.mem_cons_of_mem _ hx)
      refine ⟨(a, e.2) :: ps, by rw [List.map_cons, p1], by rw [List.map_cons, p2]; rfl, fun x hx => ?_⟩
      rcases List.mem_cons.mp hx with rfl | hx
      · exact ⟨e.1, h1, hk e (List.mem_cons_self ..)⟩
      · exact p3 x hx
def spAdd (P : Program) (w : World) (B : Cl → Addr) (n : Nat) : Sp := fun vs H Q _ => ∃ (a b : Addr) (Ta Tb : Tab), vs = [.ref a, .ref b] ∧ LotsAt P w B n H Ta a ∧ LotsAt P w B n H Tb b ∧ TabOk n (Ta ++ Tb) ∧ 1 ≤ n ∧ n ≤ 3 ∧ ∀ x T H', Ex H H' → LotsAt P w B n H' T x → Eqv T (Ta ++ Tb) → T.length ≤ (Ta ++ Tb).length → Q (.ref x) H'
theorem sc_add : FnScope ["self", "other", "pairs"] ["self", "other"] (defScope (Df.st .dLots_add)) := ⟨rfl, rfl, rfl, by decide +kernel, rfl, by decide +kernel, by decide +kernel⟩
theorem ok_add (T : Txt P K mg A B Z) (n : Nat) : FnR P w K mg base CX0 8 (A .dLots_add) (spAdd P w B n) := by
  refine (T.d0 .dLots_add).fn sc_add (fun _ _ _ _ _ _ us h => by obtain ⟨a, b, rfl⟩ := len2 h; rfl) (fun vs H Q E h => by obtain ⟨_, _, _, _, rfl, _⟩ := h; rfl) fun cdv Ar outer s H vs Q E hr h => ?_
  obtain ⟨a, b, Ta, Tb, rfl, hA, hB, tok, n1, n3, q⟩ := h
  have nd := sc_add.nd
  have hr4 : Room (1 + 3) _ := hr.mono (j := 4) (by decide)
  have hr5 : Room (1 + 4) _ := hr.mono (j := 5) (by decide)
  have mL := T.mkC .cLots (d := .dLots_init) rfl
  refine ⟨_, pss_cons (ps_if (pt_not (pt_val (pe_callB call_isi rfl (T.blt _ (by decide)) (by decide +kernel) (pa_cons (pv 1) (pa_cons (pe_glob (v := .ref (B .cLots)) rfl (T.gC .cLots) rfl) pa_nil))))) pss_never pss_nil)
    (pss_cons (ps_if (PW.pt (pw_and (pt_cmpR op_ne (pe_fld (pv 0) rfl) (pe_fld (pv 1) rfl) (nomark _)) (pw_and (pt_cmpR op_gt (pe_fld (pv 0) rfl) pe_int (nomark _)) (pw_and1 (pt_cmpR op_gt (pe_fld (pv 1) rfl) pe_int (nomark _)))))) pss_never pss_nil)
    (pss_cons (ps_set (i := 2) nd rfl (.inl rfl) (pe_lst (StX.pa_star (pe_callTy (call_ownList (iter_ok T ⟨rfl, rfl, rfl, rfl, rfl⟩) (len_ok T ⟨rfl, rfl, rfl, rfl, rfl⟩) hr4 hr5 rfl) rfl (T.blt _ (by decide)) (by decide +kernel) (pa_cons (pv 0) pa_nil))
        (StX.pa_star (pe_callTy (call_ownList (iter_ok T ⟨rfl, rfl, rfl, rfl, rfl⟩) (len_ok T ⟨rfl, rfl, rfl, rfl, rfl⟩) hr4 hr5 rfl) rfl (T.blt _ (by decide)) (by decide +kernel) (pa_cons (pv 1) pa_nil)) pa_nil))))
    (pss_one (ps_ret (pe_mkS mL (ok_LoI T n) hr rfl (T.gC .cLots) (pv 2)))))), ?_⟩
  obtain ⟨dx, d, wa, es, h1, h2, h3, h4, h5⟩ := hA
  obtain ⟨dy, d', wb, es', g1, g2, g3, g4, g5⟩ := hB
  have hcl : Cls K (B .cLots) := T.cls _
  have ic := T.ic .cLots
  refine ⟨_, rfl, _, _, _, _, true, rfl, .own _, .base (.ins g1 hcl ic.1 T.icg.1 T.icg.2 ic.2), T.isLot, true, rfl, iteF ?_⟩
  refine ⟨_, rfl, a, _, dx, _, _, rfl, h1, hcl, T.no _ _ (by decide), rfl, ?_⟩
  refine ⟨_, rfl, b, _, dy, _, _, rfl, g1, hcl, T.no _ _ (by decide), rfl, ?_⟩
  have hne : wa ≠ wb → wa = 0 ∨ wb = 0 := fun z => by
    rcases h5 with e | e
    · rcases g5 with e' | e'
      · exact absurd (e.trans e'.symm) z
      · exact .inr e'
    · exact .inl e
  have hdec : (!decide (V.int wa = V.int wb)) = !decide (wa = wb) := by
    by_cases c : wa = wb
    · rw [decide_eq_true c, decide_eq_true (congrArg V.int c)]
    · rw [decide_eq_false c, decide_eq_false fun z => c (V.int.inj z)]
  refine ⟨rfl, !decide (wa = wb), congrArg V.bl hdec, ?_⟩
  suffices fin : _ by
    by_cases hw : wa = wb
    · rw [decide_eq_true hw]
      exact iteF (iteF fin)
    · rw [decide_eq_false hw]
      refine iteT ⟨_, rfl, a, _, dx, _, _, rfl, h1, hcl, T.no _ _ (by decide), rfl, wa, 0, rfl, rfl, decide ((0 : Int) < wa), rfl, ?_⟩
      rcases hne hw with e | e
      · rw [e]
        exact iteF (iteF fin)
      · by_cases h0 : (0 : Int) < wa
        · rw [decide_eq_true h0]
          refine iteT ⟨_, rfl, b, _, dy, _, _, rfl, g1, hcl, T.no _ _ (by decide), rfl, wb, 0, rfl, rfl, false, congrArg V.bl (decide_eq_false (by omega)), iteF fin⟩
        · rw [decide_eq_false h0]
          exact iteF (iteF fin)
  have hkA : ∀ e, e ∈ es → H e.1 = some (.tup (e.2.1.map oV)) := fun e he => by rw [← lf_V]; exact h2.key (ent e) (List.mem_map_of_mem he)
  have hkB : ∀ e, e ∈ es' → H e.1 = some (.tup (e.2.1.map oV)) := fun e he => by rw [← lf_V]; exact g2.key (ent e) (List.mem_map_of_mem he)
  refine ⟨_, rfl, a, _, dx, _, d, _, rfl, h1, rfl, rfl, h2, fun S1 as1 H1 hS1 _ e1 hL1 p1 => ⟨S1, _, rfl, .inr (SqL.of hL1), ?_⟩⟩
  refine ⟨_, rfl, b, _, dy, _, d', _, rfl, e1 _ _ g1, rfl, rfl, g2.mono e1, fun S2 as2 H2 hS2 _ e2 hL2 p2 => ⟨S2, _, rfl, .inr (SqL.of hL2), ?_⟩⟩
  have E2 := e1.trans e2
  obtain ⟨ps1, a1, a2, a3⟩ := pairs_of p1 fun e he => e1 _ _ (hkA e he)
  obtain ⟨ps2, b1, b2, b3⟩ := pairs_of p2 fun e he => E2 _ _ (hkB e he)
  have hps2 : (ps1 ++ ps2).map (·.2) = Ta ++ Tb := by rw [List.map_append, a2, b2, h3, g3]
  have er : as1.map V.ref ++ (as2.map V.ref ++ []) = refs (ps1 ++ ps2) := by
    unfold refs
    rw [List.append_nil, List.map_append, ← a1, ← b1, List.map_map, List.map_map]
    rfl
  have pl : (ps1 ++ ps2).length ≤ 20 := by
    have := tok.num
    rw [← hps2, List.length_map] at this
    exact this
  refine ⟨by rw [er]; unfold refs; rw [List.length_map, sizeLine_eq]; omega, fun l hl => ?_⟩
  rw [er]
  have E3 := E2.trans (Ex.new (o := .lst (refs (ps1 ++ ps2))) hl)
  refine ⟨_, rfl, l, _, rfl, .inr (SqL.of upd_same), fun x dx2 hx hdx hne2 => ?_⟩
  have e5 := (Ex.new (o := .lst (refs (ps1 ++ ps2))) hl).trans (mk_pre (C := B .cLots) hx hdx)
  refine ⟨x, dx2, ps1 ++ ps2, rfl, upd_same, fun y hy => ?_, by rw [hps2]; exact tok, n1, n3, fun H' T' eb hT he hl2 => ⟨rfl, q x T' H' (E3.trans (mk_ex hx hdx eb)) hT (by rw [← hps2]; exact he) (by rw [← hps2, List.length_map]; exact hl2)⟩⟩
  have hy2 : y.2 ∈ Ta ++ Tb := by rw [← hps2]; exact List.mem_map_of_mem hy
  refine ⟨?_, tok.len _ hy2, tok.pos _ hy2⟩
  rcases List.mem_append.mp hy with hy | hy
  · exact ((a3 y hy).mono e2).mono e5
  · exact (b3 y hy).mono e5
theorem add_any (T : Txt P K mg A B Z) (n : Nat) : ∀ C C', GoodL B C ∧ GoodL B C' → ∃ f, BinC K .Add C C' f ∧ FnR P w K mg base CX0 8 f (spAdd P w B n) := by
  rintro C C' ⟨rfl, rfl⟩
  exact ⟨A .dLots_add, ⟨T.selfF _ rfl, T.selfF _ rfl, T.fnd .cLots .madd _ rfl, T.isF _, T.dunN _ _ rfl (by decide), T.fnd .cLots .madd _ rfl, T.dunN _ _ rfl (by decide), fun z => absurd rfl z⟩, ok_add T n⟩
end
end Hs
set_option Elab.async false
set_option linter.all false
set_option maxRecDepth 100000
set_option maxHeartbeats 4000000
/-! Questions: made. -/
namespace Hs
open PySem PySem.Spec PyProof.Rows L2 NdefX
inductive Kd where
  | some | many | atLeast (m : Int) | greatest (c : Str) | least (c : Str) | total (c : Str) | top (m : Int) (c : Str)
def Kd.cl : Kd → Cl
  | .some => .cSome
  | .many => .cMany
  | .atLeast _ => .cAtLeast
  | .greatest _ => .cGreatest
  | .least _ => .cLeast
  | .total _ => .cTotal
  | .top _ _ => .cTop
def Kd.asked : Kd → Option Str
  | .greatest c | .least c | .total c | .top _ c => Option.some c
  | _ => none
def Kd.quota : Kd → Option Int
  | .some | .greatest _ | .least _ => Option.some 1
  | .atLeast m | .top m _ => Option.some m
  | _ => none
def oS : Option Str → V
  | none => .non
  | some c => .str c
def qF (f : Addr) (x y : V) : List (Str × V) := [("test", .ref f), ("asked", x), ("quota", y)]
def QAt (B : Cl → Addr) (N : List Str) (S : List Int) (H : Hp) (k : Kd) (F : Flt) (q : Addr) : Prop := ∃ dx f, H q = some (.ins (B k.cl) dx (qF f (oS k.asked) (oV k.quota))) ∧ FltAt B N S H F f
theorem QAt.mono {B : Cl → Addr} {N : List Str} {S : List Int} {H H' : Hp} {k : Kd} {F : Flt} {q : Addr} (h : QAt B N S H k F q) (e : Ex H H') : QAt B N S H' k F q := by
  obtain ⟨dx, f, h1, h2⟩ := h
  exact ⟨dx, f, e _ _ h1, h2.mono e⟩
section
variable {P : Program} {w : World} {K : PySem.W.Frag} {mg : Str → Option Value} {base : Heap} {A : Df → Addr} {B Z : Cl → Addr}
/-- what is asked where the question at q, its test at f, is to be made -/
def QI (B : Cl → Addr) (k : Kd) (q f : Addr) (H : Hp) (Q : VK) : Prop := ∃ dx N S F, H q = Option.some (.ins (B k.cl) dx []) ∧ FltAt B N S H F f ∧ ∀ H', ExB q H H' → QAt B N S H' k F q → Q .non H'
def spQI (B : Cl → Addr) : Sp := fun vs H Q _ => ∃ (q f dx : Addr) (cl : Cl) (N : List Str) (S : List Int) (F : Flt) (x y : V), vs = [.ref q, .ref f, x, y] ∧ H q = some (.ins (B cl) dx []) ∧ FltAt B N S H F f ∧
  ∀ H', ExB q H H' → H' q = some (.ins (B cl) dx (qF f x y)) → FltAt B N S H' F f → Q .non H'
theorem sc_Qi : FnScope ["self", "test", "asked", "quota"] ["self", "test", "asked", "quota"] (defScope (Df.st .dQuestion_init)) := ⟨rfl, rfl, rfl, by decide +kernel, rfl, by decide +kernel, by decide +kernel⟩
theorem ok_Qi (T : Txt P K mg A B Z) : FnR P w K mg base CX0 1 (A .dQuestion_init) (spQI B) := by
  refine (T.d0 .dQuestion_init).fn sc_Qi (fun _ _ _ _ _ _ us h => by obtain ⟨a, b, c, d, rfl⟩ := len4 h; rfl) (fun vs H Q E h => by obtain ⟨_, _, _, _, _, _, _, _, _, rfl, _⟩ := h; rfl) fun cdv Ar outer s H vs Q E hr h => ?_
  obtain ⟨q0, f, dx, cl, N, S, F, x, y, rfl, hq, hF, q⟩ := h
  refine ⟨_, pss_cons (ps_if (pt_not (pt_val (pe_callB call_isi rfl (T.blt _ (by decide)) (by decide +kernel) (pa_cons (pv 1) (pa_cons (pe_glob (v := .ref (B .cFilter)) rfl (T.gC .cFilter) rfl) pa_nil))))) pss_never pss_nil)
    (pss_cons (ps_fld (pv 0) (pv 1) rfl) (pss_cons (ps_fld (pv 0) (pv 2) rfl) (pss_one (ps_fld (pv 0) (pv 3) rfl)))), ?_⟩
  have hF0 := hF
  obtain ⟨ex, u1, u2, u3, ks1, r, f1, f2, f3⟩ := hF
  have hcl : Cls K (B cl) := T.cls _
  refine ⟨_, rfl, _, _, _, _, true, rfl, .own _, .base (.ins f1 (T.cls _) (T.ic _).1 T.icg.1 T.icg.2 (T.ic _).2), T.isFlt _ (flt_C F), true, rfl, iteF ?_⟩
  refine ⟨_, rfl, _, rfl, q0, _, dx, _, rfl, hq, hcl, T.no _ _ (by decide), (by show 0 < 1000; decide), ?_⟩
  refine ⟨_, rfl, _, rfl, q0, _, dx, _, rfl, upd_same, hcl, T.no _ _ (by decide), (by show 1 < 1000; decide), ?_⟩
  refine ⟨_, rfl, _, rfl, q0, _, dx, _, rfl, upd_same, hcl, T.no _ _ (by decide), (by show 2 < 1000; decide), ?_⟩
  exact q _ (ExB.refl q0 H).put.put.put (by rw [upd_same]; rfl) (hF0.exb (ExB.refl q0 H).put.put.put hq)
/-- the base's init gives what is asked -/
theorem qi_sup {k : Kd} {q f q1 : Addr} {H : Hp} {Q : VK} {D g : Addr} (h : QI B k q f H Q) (hq1 : H q1 = none) : ∃ dx, H q = some (.ins (B k.cl) dx []) ∧ spQI B [.ref q, .ref f, oS k.asked, oV k.quota] (upd H q1 (.met g q)) (fun _ H3 => Q .non H3) E0 := by
  obtain ⟨dx, N, S, F, h1, h2, h3⟩ := h
  have e : Ex H (upd H q1 (.met g q)) := Ex.new hq1
  exact ⟨dx, h1, q, f, dx, k.cl, N, S, F, _, _, rfl, e _ _ h1, h2.mono e, fun H' eb g hF => h3 H' ((ex_b e).trans eb) ⟨dx, f, g, hF⟩⟩
/-! ### Some, Many -/
def spSomeI (B : Cl → Addr) : Sp := fun vs H Q _ => ∃ q f, vs = [.ref q, .ref f] ∧ QI B .some q f H Q
theorem sc_Si : NScope ["self", "test", "__class__"] ["self", "test"] ["__class__"] (defScope (Df.st .dSome_init)) := nscope_by (by decide +kernel)
theorem ok_Si (T : Txt P K mg A B Z) : FnR P w K mg base CX0 2 (A .dSome_init) (spSomeI B) := by
  have hsup : Df.dSome_init.sup = some .cSome := rfl
  refine (T.d1 .dSome_init hsup).fnSup (ps := ["self", "test"]) sc_Si (T.cellOk _ hsup) (fun _ _ _ _ _ _ us h => by obtain ⟨a, b, rfl⟩ := len2 h; rfl) (fun vs H Q E h => by obtain ⟨_, _, rfl, _⟩ := h; rfl) fun c0 Ar outer s H vs Q E hf hr h => ?_
  obtain ⟨q0, f, rfl, q⟩ := h
  have M := T.supM .dSome_init hsup hf ⟨_, rfl, by decide +kernel⟩
  refine ⟨_, (psa_super (i := 0) M rfl rfl rfl hr rfl (by decide) rfl rfl rfl (pa_cons (pv 1) (pa_cons pe_non (pa_cons pe_int pa_nil))) (psa_of pss_nil)), ?_⟩
  obtain ⟨dx, _, _, _, hq, _⟩ := id q
  refine ⟨q0, B .cSome, dx, [], A .dQuestion_init, spQI B, rfl, hq, T.supC rfl, ok_Qi T, fun q1 hq1 => ?_⟩
  obtain ⟨dx', _, hs⟩ := qi_sup (D := q0) (g := A .dQuestion_init) q hq1
  exact ⟨_, rfl, upd_same, hs⟩
def spManyI (B : Cl → Addr) : Sp := fun vs H Q _ => ∃ q f, vs = [.ref q, .ref f] ∧ QI B .many q f H Q
theorem sc_Ni : NScope ["self", "test", "__class__"] ["self", "test"] ["__class__"] (defScope (Df.st .dMany_init)) := nscope_by (by decide +kernel)
theorem ok_Ni (T : Txt P K mg A B Z) : FnR P w K mg base CX0 2 (A .dMany_init) (spManyI B) := by
  have hsup : Df.dMany_init.sup = some .cMany := rfl
  refine (T.d1 .dMany_init hsup).fnSup (ps := ["self", "test"]) sc_Ni (T.cellOk _ hsup) (fun _ _ _ _ _ _ us h => by obtain ⟨a, b, rfl⟩ := len2 h; rfl) (fun vs H Q E h => by obtain ⟨_, _, rfl, _⟩ := h; rfl) fun c0 Ar outer s H vs Q E hf hr h => ?_
  obtain ⟨q0, f, rfl, q⟩ := h
  have M := T.supM .dMany_init hsup hf ⟨_, rfl, by decide +kernel⟩
  refine ⟨_, (psa_super (i := 0) M rfl rfl rfl hr rfl (by decide) rfl rfl rfl (pa_cons (pv 1) (pa_cons pe_non (pa_cons pe_non pa_nil))) (psa_of pss_nil)), ?_⟩
  obtain ⟨dx, _, _, _, hq, _⟩ := id q
  refine ⟨q0, B .cMany, dx, [], A .dQuestion_init, spQI B, rfl, hq, T.supC rfl, ok_Qi T, fun q1 hq1 => ?_⟩
  obtain ⟨dx', _, hs⟩ := qi_sup (D := q0) (g := A .dQuestion_init) q hq1
  exact ⟨_, rfl, upd_same, hs⟩
/-! ### AtLeast -/
def spAtI (B : Cl → Addr) : Sp := fun vs H Q _ => ∃ q f m, vs = [.ref q, .int m, .ref f] ∧ 1 ≤ m ∧ QI B (.atLeast m) q f H Q
theorem sc_Ati : NScope ["self", "many", "test", "__class__"] ["self", "many", "test"] ["__class__"] (defScope (Df.st .dAtLeast_init)) := nscope_by (by decide +kernel)
theorem ok_Ati (T : Txt P K mg A B Z) : FnR P w K mg base CX0 3 (A .dAtLeast_init) (spAtI B) := by
  have hsup : Df.dAtLeast_init.sup = some .cAtLeast := rfl
  refine (T.d1 .dAtLeast_init hsup).fnSup (ps := ["self", "many", "test"]) sc_Ati (T.cellOk _ hsup) (fun _ _ _ _ _ _ us h => by obtain ⟨a, b, c, rfl⟩ := len3 h; rfl) (fun vs H Q E h => by obtain ⟨_, _, _, rfl, _⟩ := h; rfl) fun c0 Ar outer s H vs Q E hf hr h => ?_
  obtain ⟨q0, f, m, rfl, h1, q⟩ := h
  have M := T.supM .dAtLeast_init hsup hf ⟨_, rfl, by decide +kernel⟩
  have hr1 : Room 1 _ := hr.mono (j := 1) (by decide)
  refine ⟨_, (psa_cons (ps_expr (pe_fn (ok_need_many T) hr rfl (T.gD .dneed_many rfl) (T.dk .dneed_many).kp (pa_cons (pv 1) (pa_cons pe_non pa_nil))))
    <| psa_super (i := 0) M rfl rfl rfl hr1 rfl (by decide) rfl rfl rfl (pa_cons (pv 2) (pa_cons pe_non (pa_cons (pv 1) pa_nil))) (psa_of pss_nil)), ?_⟩
  obtain ⟨dx, _, _, _, hq, _⟩ := id q
  refine ⟨_, rfl, m, none, rfl, h1, (fun k h => nomatch h), ?_⟩
  refine ⟨q0, B .cAtLeast, dx, [], A .dQuestion_init, spQI B, rfl, hq, T.supC rfl, ok_Qi T, fun q1 hq1 => ?_⟩
  obtain ⟨dx', _, hs⟩ := qi_sup (D := q0) (g := A .dQuestion_init) q hq1
  exact ⟨_, rfl, _, rfl, upd_same, hs⟩
/-! ### of a column -/
def colK : Kd → Option Str := Kd.asked
def spOfI (B : Cl → Addr) : Sp := fun vs H Q _ => ∃ (q f : Addr) (k : Kd) (c : Str) (N : List Str), vs = [.ref q, .str c, .ref f, oV k.quota] ∧ N ∈ Ns ∧ c ∈ N ∧ k.asked = some c ∧ QI B k q f H Q
theorem sc_Oi : NScope ["self", "column", "test", "quota", "__class__"] ["self", "column", "test", "quota"] ["__class__"] (defScope (Df.st .dOfColumn_init)) := nscope_by (by decide +kernel)
theorem sup_O {k : Kd} {c : Str} (h : k.asked = some c) : supOf k.cl .cOfColumn = some .dQuestion_init := by cases k <;> first | rfl | cases h
theorem QI.mono {k : Kd} {q f : Addr} {H H' : Hp} {Q : VK} (h : QI B k q f H Q) (e : Ex H H') : QI B k q f H' Q := by
  obtain ⟨dx, N, S, F, h1, h2, h3⟩ := h
  exact ⟨dx, N, S, F, e _ _ h1, h2.mono e, fun H2 eb => h3 H2 ((ex_b e).trans eb)⟩
theorem ok_Oi (T : Txt P K mg A B Z) : FnR P w K mg base CX0 2 (A .dOfColumn_init) (spOfI B) := by
  have hsup : Df.dOfColumn_init.sup = some .cOfColumn := rfl
  refine (T.d1 .dOfColumn_init hsup).fnSup (ps := ["self", "column", "test", "quota"]) sc_Oi (T.cellOk _ hsup) (fun _ _ _ _ _ _ us h => by obtain ⟨a, b, c, d, rfl⟩ := len4 h; rfl) (fun vs H Q E h => by obtain ⟨_, _, _, _, _, rfl, _⟩ := h; rfl) fun c0 Ar outer s H vs Q E hf hr h => ?_
  obtain ⟨q0, f, k, c, N, rfl, hN, hc, hk, q⟩ := h
  have M := T.supM .dOfColumn_init hsup hf ⟨_, rfl, by decide +kernel⟩
  refine ⟨_, (psa_cons (ps_if (pt_not (pt_val (pe_fn (ok_is_name T) hr rfl (T.gD .dis_name rfl) (T.dk .dis_name).kp (pa_cons (pv 1) pa_nil)))) pss_never pss_nil)
    <| psa_super (i := 0) M rfl rfl rfl hr rfl (by decide) rfl rfl rfl (pa_cons (pv 2) (pa_cons (pv 1) (pa_cons (pv 3) pa_nil))) (psa_of pss_nil)), ?_⟩
  refine ⟨_, rfl, name_yes hN hc fun H1 e1 => ?_⟩
  replace q := q.mono e1
  obtain ⟨dx, _, _, _, hq, _⟩ := id q
  refine ⟨q0, B k.cl, dx, [], A .dQuestion_init, spQI B, rfl, hq, T.supC (sup_O hk), ok_Qi T, fun q1 hq1 => ?_⟩
  obtain ⟨dx', _, hs⟩ := qi_sup (D := q0) (g := A .dQuestion_init) q hq1
  rw [hk] at hs
  exact ⟨_, rfl, _, rfl, _, rfl, upd_same, hs⟩
/-- the base's init, called by a subclass of OfColumn -/
theorem of_sup {k : Kd} {q f q1 g : Addr} {H : Hp} {Q : VK} {c : Str} {N : List Str} (h : QI B k q f H Q) (hN : N ∈ Ns) (hc : c ∈ N) (hk : k.asked = some c) (hq1 : H q1 = none) : spOfI B [.ref q, .str c, .ref f, oV k.quota] (upd H q1 (.met g q)) (fun _ H3 => Q .non H3) E0 :=
  ⟨q, f, k, c, N, rfl, hN, hc, hk, h.mono (Ex.new hq1)⟩
def spColI (B : Cl → Addr) (mk : Str → Kd) : Sp := fun vs H Q _ => ∃ q f c N, vs = [.ref q, .str c, .ref f] ∧ N ∈ Ns ∧ c ∈ N ∧ QI B (mk c) q f H Q
theorem sc_Greatest : NScope ["self", "column", "test", "__class__"] ["self", "column", "test"] ["__class__"] (defScope (Df.st .dGreatest_init)) := nscope_by (by decide +kernel)
theorem ok_Greatest (T : Txt P K mg A B Z) : FnR P w K mg base CX0 3 (A .dGreatest_init) (spColI B .greatest) := by
  have hsup : Df.dGreatest_init.sup = some .cGreatest := rfl
  refine (T.d1 .dGreatest_init hsup).fnSup (ps := ["self", "column", "test"]) sc_Greatest (T.cellOk _ hsup) (fun _ _ _ _ _ _ us h => by obtain ⟨a, b, c, rfl⟩ := len3 h; rfl) (fun vs H Q E h => by obtain ⟨_, _, _, _, rfl, _⟩ := h; rfl) fun c0 Ar outer s H vs Q E hf hr h => ?_
  obtain ⟨q0, f, c, N, rfl, hN, hc, q⟩ := h
  have M := T.supM .dGreatest_init hsup hf ⟨_, rfl, by decide +kernel⟩
  refine ⟨_, (psa_super (i := 0) M rfl rfl rfl hr rfl (by decide) rfl rfl rfl (pa_cons (pv 1) (pa_cons (pv 2) (pa_cons pe_int pa_nil))) (psa_of pss_nil)), ?_⟩
  obtain ⟨dx, _, _, _, hq, _⟩ := id q
  refine ⟨q0, B .cGreatest, dx, [], A .dOfColumn_init, spOfI B, rfl, hq, T.supC rfl, ok_Oi T, fun q1 hq1 => ?_⟩
  exact ⟨_, rfl, _, rfl, upd_same, of_sup q hN hc rfl hq1⟩
theorem sc_Least : NScope ["self", "column", "test", "__class__"] ["self", "column", "test"] ["__class__"] (defScope (Df.st .dLeast_init)) := nscope_by (by decide +kernel)
theorem ok_Least (T : Txt P K mg A B Z) : FnR P w K mg base CX0 3 (A .dLeast_init) (spColI B .least) := by
  have hsup : Df.dLeast_init.sup = some .cLeast := rfl
  refine (T.d1 .dLeast_init hsup).fnSup (ps := ["self", "column", "test"]) sc_Least (T.cellOk _ hsup) (fun _ _ _ _ _ _ us h => by obtain ⟨a, b, c, rfl⟩ := len3 h; rfl) (fun vs H Q E h => by obtain ⟨_, _, _, _, rfl, _⟩ := h; rfl) fun c0 Ar outer s H vs Q E hf hr h => ?_
  obtain ⟨q0, f, c, N, rfl, hN, hc, q⟩ := h
  have M := T.supM .dLeast_init hsup hf ⟨_, rfl, by decide +kernel⟩
  refine ⟨_, (psa_super (i := 0) M rfl rfl rfl hr rfl (by decide) rfl rfl rfl (pa_cons (pv 1) (pa_cons (pv 2) (pa_cons pe_int pa_nil))) (psa_of pss_nil)), ?_⟩
  obtain ⟨dx, _, _, _, hq, _⟩ := id q
  refine ⟨q0, B .cLeast, dx, [], A .dOfColumn_init, spOfI B, rfl, hq, T.supC rfl, ok_Oi T, fun q1 hq1 => ?_⟩
  exact ⟨_, rfl, _, rfl, upd_same, of_sup q hN hc rfl hq1⟩
theorem sc_Total : NScope ["self", "column", "test", "__class__"] ["self", "column", "test"] ["__class__"] (defScope (Df.st .dTotal_init)) := nscope_by (by decide +kernel)
theorem ok_Total (T : Txt P K mg A B Z) : FnR P w K mg base CX0 3 (A .dTotal_init) (spColI B .total) := by
  have hsup : Df.dTotal_init.sup = some .cTotal := rfl
  refine (T.d1 .dTotal_init hsup).fnSup (ps := ["self", "column", "test"]) sc_Total (T.cellOk _ hsup) (fun _ _ _ _ _ _ us h => by obtain ⟨a, b, c, rfl⟩ := len3 h; rfl) (fun vs H Q E h => by obtain ⟨_, _, _, _, rfl, _⟩ := h; rfl) fun c0 Ar outer s H vs Q E hf hr h => ?_
  obtain ⟨q0, f, c, N, rfl, hN, hc, q⟩ := h
  have M := T.supM .dTotal_init hsup hf ⟨_, rfl, by decide +kernel⟩
  refine ⟨_, (psa_super (i := 0) M rfl rfl rfl hr rfl (by decide) rfl rfl rfl (pa_cons (pv 1) (pa_cons (pv 2) (pa_cons pe_non pa_nil))) (psa_of pss_nil)), ?_⟩
  obtain ⟨dx, _, _, _, hq, _⟩ := id q
  refine ⟨q0, B .cTotal, dx, [], A .dOfColumn_init, spOfI B, rfl, hq, T.supC rfl, ok_Oi T, fun q1 hq1 => ?_⟩
  exact ⟨_, rfl, _, rfl, upd_same, of_sup q hN hc rfl hq1⟩
def spTopI (B : Cl → Addr) : Sp := fun vs H Q _ => ∃ q f c N m, vs = [.ref q, .int m, .str c, .ref f] ∧ 1 ≤ m ∧ m ≤ 4 ∧ N ∈ Ns ∧ c ∈ N ∧ QI B (.top m c) q f H Q
theorem sc_Top : NScope ["self", "many", "column", "test", "__class__"] ["self", "many", "column", "test"] ["__class__"] (defScope (Df.st .dTop_init)) := nscope_by (by decide +kernel)
theorem ok_Top (T : Txt P K mg A B Z) : FnR P w K mg base CX0 3 (A .dTop_init) (spTopI B) := by
  have hsup : Df.dTop_init.sup = some .cTop := rfl
  refine (T.d1 .dTop_init hsup).fnSup (ps := ["self", "many", "column", "test"]) sc_Top (T.cellOk _ hsup) (fun _ _ _ _ _ _ us h => by obtain ⟨a, b, c, d, rfl⟩ := len4 h; rfl) (fun vs H Q E h => by obtain ⟨_, _, _, _, _, rfl, _⟩ := h; rfl) fun c0 Ar outer s H vs Q E hf hr h => ?_
  obtain ⟨q0, f, c, N, m, rfl, h1, h4, hN, hc, q⟩ := h
  have M := T.supM .dTop_init hsup hf ⟨_, rfl, by decide +kernel⟩
  obtain ⟨t1, t2, t3, t4, t5, t6, t7, m1, m2, m3, m4, m5, m6, m7⟩ := T.gMost
  refine ⟨_, (psa_cons (ps_expr (pe_fn (ok_need_many T) hr rfl (T.gD .dneed_many rfl) (T.dk .dneed_many).kp (pa_cons (pv 1) (pa_cons (pe_glob (v := .int 4) rfl m7 ⟨_, rfl⟩) pa_nil))))
    <| psa_super (i := 0) M rfl rfl rfl hr rfl (by decide) rfl rfl rfl (pa_cons (pv 2) (pa_cons (pv 3) (pa_cons (pv 1) pa_nil))) (psa_of pss_nil)), ?_⟩
  obtain ⟨dx, _, _, _, hq, _⟩ := id q
  refine ⟨_, rfl, m, some 4, rfl, h1, (fun k h => by cases h; exact h4), ?_⟩
  refine ⟨q0, B .cTop, dx, [], A .dOfColumn_init, spOfI B, rfl, hq, T.supC rfl, ok_Oi T, fun q1 hq1 => ?_⟩
  exact ⟨_, rfl, _, rfl, _, rfl, upd_same, of_sup q hN hc rfl hq1⟩
/-- a made question -/
theorem qi_mk {k : Kd} {N : List Str} {S : List Int} {F : Flt} {f x dx : Addr} {H : Hp} {Q : VK} (hF : FltAt B N S H F f) (hx : H x = none) (hd : H dx = none) (q : ∀ x H', Ex H H' → QAt B N S H' k F x → Q (.ref x) H') :
    QI B k x f (upd (upd H dx (.own x)) x (.ins (B k.cl) dx [])) (fun v H2 => v = .non ∧ Q (.ref x) H2) :=
  ⟨dx, N, S, F, upd_same, hF.mono (mk_pre hx hd), fun H' eb hq => ⟨rfl, q x H' (mk_ex hx hd eb) hq⟩⟩
end
end Hs
set_option Elab.async false
set_option linter.all false
set_option maxRecDepth 100000
set_option maxHeartbeats 4000000
/-! are_names, are_rows, columns. -/
namespace Hs
open PySem PySem.Spec PyProof.Rows L2
section
variable {P : Program} {w : World} {K : PySem.W.Frag} {mg : Str → Option Value} {base : Heap} {A : Df → Addr} {B Z : Cl → Addr}
theorem eqv_self : ∀ ns : List Str, PyData.eqvAll (ns.map PyData.str) (ns.map PyData.str) = true
  | [] => by simp only [List.map_nil, PyData.eqvAll]
  | n :: ns => by simp only [List.map_cons, PyData.eqvAll, PyData.eqv, beq_self_eq_true, eqv_self ns, Bool.and_self]
theorem ns_len3 {N : List Str} (h : N ∈ Ns) : 1 ≤ N.length ∧ N.length ≤ 3 := by rcases Ns_len h with e | e <;> omega
def spAreN : Sp := fun vs H Q _ => ∃ (a : Addr) (N : List Str), vs = [.ref a] ∧ N ∈ Ns ∧ H a = some (.tup (N.map V.str)) ∧ ∀ H', Ex H H' → Q (.bl true) H'
theorem sc_are_names : FnScope ["names", "name"] ["names"] (defScope (Df.st .dare_names)) := ⟨rfl, rfl, rfl, by decide +kernel, rfl, by decide +kernel, by decide +kernel⟩
theorem ok_are_names (T : Txt P K mg A B Z) : FnR P w K mg base CX0 2 (A .dare_names) spAreN := by
  refine (T.d0 .dare_names).fn sc_are_names (fun _ _ _ _ _ _ us h => by obtain ⟨a, rfl⟩ := len1 h; rfl) (fun vs H Q E h => by obtain ⟨_, _, rfl, _⟩ := h; rfl) fun cdv Ar outer s H vs Q E hr h => ?_
  obtain ⟨a, N, rfl, hN, ha, q⟩ := h
  have nd := sc_are_names.nd
  obtain ⟨t1, t2, t3, t4, t5, t6, t7, m1, m2, m3, m4, m5, m6, m7⟩ := T.gMost
  refine ⟨_, pss_cons (ps_if (PW.pt (pw_or (pt_not (pt_val (pe_isT (n := "tuple") (pv 0) rfl (T.blt _ (by decide)) rfl (T.blt _ (by decide)) (by decide +kernel))))
      (pw_or1 (pt_not (pt_chain op_le op_le pe_int (pe_callB call_len_seq rfl (T.blt _ (by decide)) PySem.boot_len (pa_cons (pv 0) pa_nil)) (pe_glob (v := .int 3) rfl m6 ⟨_, rfl⟩)))))) (pss_one (ps_ret pe_bl)) pss_nil)
    (pss_cons (ps_if (pt_not (pt_val (pe_callB (cr_all rfl) rfl (T.blt _ (by decide)) (by decide +kernel) (pa_cons (pe_lc (own := [("name", 1)]) (g := gName 1) (tt := tYes) rfl nd (pi_tup (pv 0)) (blkOk_by (N := ["names", "name"]) (sc := defScope (Df.st .dare_names)) (by decide +kernel))
        (fun _ _ _ _ _ => pg_name (i := 1) nd rfl (Or.inl rfl)) (fun _ _ _ _ _ => pts_nil) (fun _ _ _ _ _ => pe_fn (ok_is_name T) (by exact hr) rfl (T.gD .dis_name rfl) (T.dk .dis_name).kp (pa_cons (pv 1) pa_nil))) pa_nil)))) (pss_one (ps_ret pe_bl)) pss_nil)
    (pss_one (ps_ret (pe_cmpR (op_eqD hr.units) (pe_callTy call_list_of rfl (T.blt _ (by decide)) (by decide +kernel) (pa_cons (pv 0) pa_nil)) (pe_fn (ok_ascending_names T) hr rfl (T.gD .dascending_names rfl) (T.dk .dascending_names).kp (pa_cons (pv 0) pa_nil)) (nomark _))))), ?_⟩
  have hT : SqT K H a (N.map V.str) := SqT.of ha
  obtain ⟨n1, n3⟩ := ns_len3 hN
  refine ⟨_, rfl, _, true, .base (.tup ha), k_tup_tup, true, rfl, iteF ?_⟩
  refine ⟨_, rfl, a, _, rfl, .inr hT, ?_⟩
  refine ⟨1, _, rfl, rfl, true, congrArg V.bl (decide_eq_true (by rw [List.length_map]; omega)), iteT ⟨_, 3, rfl, rfl, true, congrArg V.bl (decide_eq_true (by rw [List.length_map]; omega)), iteF ?_⟩⟩
  refine ⟨_, rfl, a, rfl, ⟨_, hT⟩, fun D hD => lc_at walk_tup (fun H' e => ex_t e hT) hD (by rw [List.length_map]; omega) (fun _ => some (.bl true)) (fun x H5 hx e5 KK KN k1 k2 => ?_) fun H1 e1 h1 => ?_⟩
  · obtain ⟨n, hn, rfl⟩ := List.mem_map.mp hx
    exact ⟨rfl, _, rfl, .str n, rfl, .inl ⟨n, rfl, Ns_allN hN hn, fun H' e => k1 _ _ e rfl⟩⟩
  refine ⟨D, List.replicate N.length true, rfl, SqL.of (by rw [h1, List.map_replicate, fm_bl, List.length_map]), ?_⟩
  rw [List.all_replicate]
  have e : (if N.length = 0 then true else id true) = true := by split <;> rfl
  rw [e]
  refine ⟨true, rfl, iteF ?_⟩
  refine ⟨_, rfl, a, _, rfl, .inr (ex_t e1 hT), fun l hl => ?_⟩
  have e2 := e1.trans (Ex.new (o := .lst (N.map V.str)) hl)
  refine ⟨_, rfl, a, N, rfl, .inr (ex_t e2 hT), by omega, fun p ys H3 e3 h3 nd3 m3 s3 => ?_⟩
  have en : ys = N := asc_full hN nd3 (fun y hy => (m3 y).mp hy) s3 (Nat.le_antisymm (sub_len nd3 fun y hy => (m3 y).mp hy) (sub_len (Ns_nd hN) fun y hy => (m3 y).mpr hy))
  subst en
  have sh := sh_strs ys fun y hy => Ns_allN hN hy
  refine ⟨_, _, .lst (SqL.of (e3 _ _ upd_same)) (dp_strs ys), .lst (SqL.of h3) (dp_strs ys), sh, sh, ?_⟩
  have e : PyData.eqv (.list (ys.map PyData.str)) (.list (ys.map PyData.str)) = true := by simp only [PyData.eqv, eqv_self]
  rw [e]
  exact q H3 (e2.trans e3)
/-! ### are_rows -/
def rLenS (K : PySem.W.Frag) : List V → Hp → VK → Prop := fun xs H Q => ∃ p ys, xs = [.ref p] ∧ (SqL K H p ys ∨ SqT K H p ys) ∧ Q (.int ys.length) H
theorem call_lenS {X : Cx} : CallR X (.builtin "len") (rLenS X.K) := call_len_seq
def spAreR (P : Program) (w : World) (B : Cl → Addr) : Sp := fun vs H Q _ => ∃ (p : Addr) (n : Nat) (Tb : Tab), vs = [.ref p, .int n] ∧ LotsAt P w B n H Tb p ∧ ∀ H', Ex H H' → Q (.bl true) H'
theorem sc_are_rows : FnScope ["lots", "many", "row", "times"] ["lots", "many"] (defScope (Df.st .dare_rows)) := ⟨rfl, rfl, rfl, by decide +kernel, rfl, by decide +kernel, by decide +kernel⟩
theorem ok_are_rows (T : Txt P K mg A B Z) : FnR P w K mg base CX0 2 (A .dare_rows) (spAreR P w B) := by
  refine (T.d0 .dare_rows).fn sc_are_rows (fun _ _ _ _ _ _ us h => by obtain ⟨a, b, rfl⟩ := len2 h; rfl) (fun vs H Q E h => by obtain ⟨_, _, _, rfl, _⟩ := h; rfl) fun cdv Ar outer s H vs Q E hr h => ?_
  obtain ⟨p, n, Tb, rfl, hL, q⟩ := h
  have nd := sc_are_rows.nd
  refine ⟨_, pss_one (ps_ret (pe_and (pe_callB call_isi rfl (T.blt _ (by decide)) (by decide +kernel) (pa_cons (pv 0) (pa_cons (pe_glob (v := .ref (B .cLots)) rfl (T.gC .cLots) rfl) pa_nil)))
    (pe_one (pe_callB (cr_all rfl) rfl (T.blt _ (by decide)) (by decide +kernel) (pa_cons (pe_lc (own := [("row", 2), ("times", 3)]) (g := gTup K 2 (gCons (gName 2) (gCons (gName 3) gNil))) (tt := tYes) (te := tOp rEq (tCB (rLenS K) (tCons (tVar 2) tNil)) (tVar 1)) rfl nd (pi_own (iter_ok T ⟨rfl, rfl, rfl, rfl, rfl⟩) hr (pv 0)) (blkOk_by (N := ["lots", "many", "row", "times"]) (sc := defScope (Df.st .dare_rows)) (by decide +kernel))
      (fun _ _ _ _ _ => pg_tup rfl (pgs_cons (pg_name (i := 2) nd rfl (.inl rfl)) (pgs_cons (pg_name (i := 3) nd rfl (.inl rfl)) pgs_nil))) (fun _ _ _ _ _ => pts_nil)
      (fun _ _ _ _ _ => pe_cmpR op_eq (pe_callB call_len_seq rfl (T.blt _ (by decide)) PySem.boot_len (pa_cons (pv 2) pa_nil)) (pv 1) (nomark _))) pa_nil))))), ?_⟩
  obtain ⟨dx, d, wa, es, h1, h2, h3, h4, h5⟩ := hL
  have ic := T.ic .cLots
  obtain ⟨od, hod, tdo⟩ := h2.at_
  refine ⟨_, rfl, _, _, _, _, true, rfl, .own _, .base (.ins h1 (T.cls _) ic.1 T.icg.1 T.icg.2 ic.2), T.isLot, true, rfl, iteT ?_⟩
  have el : es.length ≤ 20 := by
    have := h4.num
    rw [← h3] at this
    unfold tabE at this
    rwa [List.length_map] at this
  refine ⟨_, rfl, p, _, dx, _, d, od, _, rfl, h1, rfl, rfl, h2, hod, fun H1 e1 D hD => lc_it (walk_ti (d := d) (od := od) (xs := es.map ent)) (fun i H' => Ex H1 H' ∧ H' D = some (.lst (List.replicate i (V.bl true)))) ⟨Ex.new hD, upd_same⟩ (fun i H' _ q => q.1 _ _ (e1 _ _ hod)) (fun i x H4 H5 hi q4 y => ?_) (fun H4 q4 => ?_)⟩
  · obtain ⟨T2, e, hx, rfl, hT2, rfl⟩ := y
    rw [List.getElem?_map] at hx
    obtain ⟨e0, hxe, rfl⟩ := Option.map_eq_some_iff.mp hx
    have he := List.mem_of_getElem? hxe
    have hk := q4.1 _ _ (e1 _ _ (h2.key (ent e0) (List.mem_map_of_mem he)))
    have hk2 := (Ex.new hT2 (o := .tup [.ref e0.1, .int e0.2.2])) _ _ hk
    have hln : e0.2.1.length = n := h4.len e0.2 (by rw [← h3]; exact List.mem_map_of_mem he)
    refine ⟨T2, _, rfl, SqT.of upd_same, rfl, _, _, rfl, _, _, rfl, rfl, rfl, ?_⟩
    refine ⟨_, rfl, e0.1, _, rfl, .inr (SqT.of hk2), _, rfl, rfl, ?_⟩
    have ed : decide (V.int ↑((ent e0).1.map lV).length = V.int ↑n) = true := decide_eq_true (by
      show V.int (((lf e0.2.1).map lV).length : Nat) = _
      rw [lf_V, List.length_map, hln])
    rw [ed]
    refine ⟨_, (Ex.new hT2) _ _ q4.2, by rw [List.length_replicate, sizeLine_eq]; rw [List.length_map] at hi; omega, Ex.mut (q4.1.trans (Ex.new hT2)) hD, by rw [upd_same, List.replicate_succ']⟩
  rw [List.length_map] at q4
  refine ⟨D, List.replicate es.length true, rfl, SqL.of (by rw [List.map_replicate]; exact q4.2), ?_⟩
  rw [List.all_replicate]
  have e : (if es.length = 0 then true else id true) = true := by split <;> rfl
  rw [e]
  exact q _ (e1.trans q4.1)
end
end Hs
set_option Elab.async false
set_option linter.all false
set_option maxRecDepth 100000
set_option maxHeartbeats 4000000
/-! columns, matches. -/
namespace Hs
open PySem PySem.Spec PyProof.Rows L2
section
variable {P : Program} {w : World} {K : PySem.W.Frag} {mg : Str → Option Value} {base : Heap} {A : Df → Addr} {B Z : Cl → Addr}
def spQcol (B : Cl → Addr) : Sp := fun vs H Q _ => ∃ (q : Addr) (N : List Str) (S : List Int) (k : Kd) (F : Flt), vs = [.ref q] ∧ N ∈ Ns ∧ QAt B N S H k F q ∧ (∀ c, k.asked = some c → c ∈ N) ∧ ∀ t (cs : List Str) H', Ex H H' → H' t = some (.tup (cs.map V.str)) → (∀ c, c ∈ cs → c ∈ N) → Q (.ref t) H'
theorem sc_Qc : FnScope ["self"] ["self"] (defScope (Df.st .dQuestion_columns)) := ⟨rfl, rfl, rfl, by decide +kernel, rfl, by decide +kernel, by decide +kernel⟩
theorem ok_Qc (T : Txt P K mg A B Z) : FnR P w K mg base CX0 3 (A .dQuestion_columns) (spQcol B) := by
  refine (T.d0 .dQuestion_columns).fn sc_Qc (fun _ _ _ _ _ _ us h => by obtain ⟨a, rfl⟩ := len1 h; rfl) (fun vs H Q E h => by obtain ⟨_, _, _, _, _, rfl, _⟩ := h; rfl) fun cdv Ar outer s H vs Q E hr h => ?_
  obtain ⟨q0, N, S, k, F, rfl, hN, ⟨dx, f, hq, hF⟩, hk, q⟩ := h
  generalize hka : k.asked = ak at hq hk
  have hr1 : Room 1 _ := hr.mono (j := 1) (by decide)
  refine ⟨_, pss_one (ps_ret (pe_callTy call_tuple_of rfl (T.blt _ (by decide)) (by decide +kernel) (pa_cons (pe_fn (ok_ascending_names T) hr1 rfl (T.gD .dascending_names rfl) (T.dk .dascending_names).kp (pa_cons
    (pe_lst (StX.pa_star (pe_pa (pe_fld (pv 0) rfl) (prop_any T (by decide) (ok_cols T) ⟨rfl, rfl, rfl, rfl, rfl⟩) hr) (StX.pa_star (pe_ifExp (pt_cmp (pc_isN (pe_fld (pv 0) rfl))) (pe_lst pa_nil) (pe_lst (pa_cons (pe_fld (pv 0) rfl) pa_nil))) pa_nil))) pa_nil)) pa_nil))), ?_⟩
  obtain ⟨ex, t1, t2, t3, ks, r, f1, f2, f3⟩ := hF
  obtain ⟨cs, c1, d1, i1⟩ := f2.cs
  have hcl : Cls K (B k.cl) := T.cls _
  have hNl : N.length ≤ 2 := by rcases Ns_len hN with e | e <;> omega
  have cl := sub_len d1 i1
  refine ⟨_, rfl, q0, _, dx, _, _, rfl, hq, hcl, T.no _ _ (by decide), rfl, f, B F.cl, ex, _, rfl, f1, ⟨F.cl, rfl, flt_C F⟩, f, ex, F.cl, _, _, rfl, f1, lk_cols t1 t2 t3 r, ⟨t1, cs.map V.str, rfl, .inl (SqT.of c1), ?_⟩⟩
  refine ⟨_, rfl, q0, _, dx, _, _, rfl, hq, hcl, T.no _ _ (by decide), rfl, ?_⟩
  have fin : ∀ (l : Addr) (ns : List Str) (H1 : Hp), Ex H H1 → H1 l = some (.lst (ns.map V.str)) → ns.length < 64 → (∀ c, c ∈ ns → c ∈ N) → spAscN K [.ref l] H1 (fun x H2 => ∃ p ys, [x] = [.ref p] ∧ ((SqL K H2 p ys ∧ ∀ l, H2 l = none → Q (.ref l) (upd H2 l (.tup ys))) ∨ (SqT K H2 p ys ∧ Q (.ref p) H2))) E0 := fun l ns H1 e1 h1 hl hs =>
    ⟨l, ns, rfl, .inl (SqL.of h1), hl, fun p ys H2 e2 h2 _ m2 _ => ⟨p, _, rfl, .inl ⟨SqL.of h2, fun t ht => q t ys _ ((e1.trans e2).trans (Ex.new ht)) upd_same fun c hc => hs c ((m2 c).mp hc)⟩⟩⟩
  have ecs : ∀ zs : List Str, cs.map V.str ++ (zs.map V.str ++ []) = (cs ++ zs).map V.str := fun zs => by rw [List.append_nil, List.map_append]
  cases ak with
  | none =>
    refine ⟨true, rfl, iteT ⟨Nat.zero_le _, fun p hp => ⟨p, [], rfl, .inr (SqL.of upd_same), ?_⟩⟩⟩
    have e0 := ecs []
    refine ⟨by rw [List.length_append, List.length_map, sizeLine_eq]; show cs.length + 0 ≤ 16777216; omega, fun l hl => ?_⟩
    refine fin l (cs ++ []) _ ((Ex.new hp).trans (Ex.new hl)) (by rw [upd_same]; exact congrArg (fun z => some (HO.lst z)) e0) (by rw [List.append_nil]; omega) fun c hc => i1 c (by simpa using hc)
  | some c =>
    refine ⟨false, rfl, iteF ⟨_, rfl, q0, _, dx, _, _, rfl, hq, hcl, T.no _ _ (by decide), rfl, one_le, fun p hp => ⟨p, _, rfl, .inr (SqL.of upd_same), ?_⟩⟩⟩
    have e0 := ecs [c]
    refine ⟨by rw [List.length_append, List.length_map, sizeLine_eq]; show cs.length + 1 ≤ 16777216; omega, fun l hl => ?_⟩
    refine fin l (cs ++ [c]) _ ((Ex.new hp).trans (Ex.new hl)) (by rw [upd_same]; exact congrArg (fun z => some (HO.lst z)) e0) (by rw [List.length_append]; show cs.length + 1 < 64; omega) fun x hx => (List.mem_append.mp hx).elim (i1 x) fun h => by rw [List.mem_singleton.mp h]; exact hk c rfl
end
end Hs
set_option Elab.async false
set_option linter.all false
set_option maxRecDepth 100000
set_option maxHeartbeats 4000000
/-! matches. -/
namespace Hs
open PySem PySem.Spec PyProof.Rows L2
abbrev XL := List (Addr × (Option Int × Int))
/-- the matches in the heap -/
def MsIn (H : Hp) (xs : XL) (M : ML) : Prop := xs.map (·.2) = M ∧ ∀ x, x ∈ xs → H x.1 = some (.tup [oV x.2.1, .int x.2.2])
def rfX (xs : XL) : List V := xs.map fun x => V.ref x.1
theorem MsIn.mono {H H' : Hp} {xs : XL} {M : ML} (h : MsIn H xs M) (e : Ex H H') : MsIn H' xs M := ⟨h.1, fun x hx => e _ _ (h.2 x hx)⟩
theorem MsIn.snoc {H : Hp} {xs : XL} {M : ML} {t : Addr} {v : Option Int × Int} (h : MsIn H xs M) (ht : H t = some (.tup [oV v.1, .int v.2])) : MsIn H (xs ++ [(t, v)]) (M ++ [v]) := by
  refine ⟨by rw [List.map_append, h.1]; rfl, fun x hx => ?_⟩
  rcases List.mem_append.mp hx with hx | hx
  · exact h.2 x hx
  · rw [List.mem_singleton.mp hx]; exact ht
section
variable {P : Program} {w : World} {K : PySem.W.Frag} {mg : Str → Option Value} {base : Heap} {A : Df → Addr} {B Z : Cl → Addr}
theorem ms_one {F : Flt} {N : List Str} {asked : Option Str} {r : Rw} {t : Int} {v : Option Int} (h : sel F N asked r = some v) : ms F N asked [(r, t)] = [(v, t)] := by
  unfold ms mt
  simp [h]
theorem ms_zero {F : Flt} {N : List Str} {asked : Option Str} {r : Rw} {t : Int} (h : sel F N asked r = none) : ms F N asked [(r, t)] = [] := by
  unfold ms mt
  simp [h]
theorem ms_take {F : Flt} {N : List Str} {asked : Option Str} {es : List E3} {j : Nat} {e : E3} (h : es[j]? = some e) : ms F N asked (tabE (es.take (j + 1))) = ms F N asked (tabE (es.take j)) ++ ms F N asked [e.2] := by
  rw [List.take_succ, h, ← ms_append]
  unfold tabE
  rw [List.map_append]
  rfl
theorem MsIn.at {H : Hp} {xs : XL} {M : ML} {l : Addr} {ys : List V} {o : HO} (h : MsIn H xs M) (hl : H l = some (.lst ys)) : MsIn (upd H l o) xs M := ⟨h.1, fun x hx => by
  rw [upd_ne (fun z => by have := h.2 x hx; rw [z, hl] at this; cases this)]
  exact h.2 x hx⟩
theorem rfX_snoc (xs : XL) (t : Addr) (v : Option Int × Int) : rfX xs ++ [.ref t] = rfX (xs ++ [(t, v)]) := by
  unfold rfX
  rw [List.map_append]; rfl
theorem ms_len {F : Flt} {N : List Str} {asked : Option Str} (T : Tab) : (ms F N asked T).length ≤ T.length := by
  unfold ms mt
  exact List.length_filterMap_le _ _
abbrev LL := List (Addr × Tab)
def tabs (ls : LL) : Tab := ls.flatMap (·.2)
def spMat (P : Program) (w : World) (B : Cl → Addr) (n : Nat) : Sp := fun vs H Q _ => ∃ (q a b : Addr) (N : List Str) (S : List Int) (k : Kd) (F : Flt) (ls : LL), vs = [.ref q, .ref a, .ref b] ∧ N ∈ Ns ∧ QAt B N S H k F q ∧ (∀ c, k.asked = some c → c ∈ N) ∧ F.ht ≤ n ∧
  H a = some (.tup (N.map V.str)) ∧ H b = some (.tup (ls.map fun x => .ref x.1)) ∧ (∀ x, x ∈ ls → LotsAt P w B N.length H x.2 x.1) ∧ ls.length ≤ 3 ∧
  ∀ l xs H', Ex H H' → H' l = some (.lst (rfX xs)) → MsIn H' xs (ms F N k.asked (tabs ls)) → Q (.ref l) H'
theorem sc_mat : FnScope ["self", "names", "blocks", "found", "lots", "row", "times", "table"] ["self", "names", "blocks"] (defScope (Df.st .dQuestion_matches)) := ⟨rfl, rfl, rfl, by decide +kernel, rfl, by decide +kernel, by decide +kernel⟩
theorem ok_mat (T : Txt P K mg A B Z) (n : Nat) : FnR P w K mg base CX0 (n + 3) (A .dQuestion_matches) (spMat P w B n) := by
  refine (T.d0 .dQuestion_matches).fn sc_mat (fun _ _ _ _ _ _ us h => by obtain ⟨a, b, c, rfl⟩ := len3 h; rfl) (fun vs H Q E h => by obtain ⟨_, _, _, _, _, _, _, _, rfl, _⟩ := h; rfl) fun cdv Ar outer s H vs Q E hr h => ?_
  obtain ⟨q0, a, b, N, S, k, F, ls, rfl, hN, ⟨dx, f, hq, hF⟩, hk, hn, ha, hb, hL, l3, q⟩ := h
  generalize k.asked = ak at hq hk q
  have nd := sc_mat.nd
  have hu := hu_of hr
  have hr1 : Room 1 _ := hr.mono (j := 1) (by omega)
  refine ⟨_, pss_cons (ps_set (i := 3) nd rfl (.inl rfl) (pe_lst pa_nil))
    (pss_cons (ps_for PassesOwn.never rfl (pi_tup (pv 2)) (pg_name (i := 4) nd rfl (.inl rfl))
      (pss_one (ps_for PassesOwn.never rfl (pi_own (iter_ok T ⟨rfl, rfl, rfl, rfl, rfl⟩) hr1 (pv 4)) (pg_tup rfl (pgs_cons (pg_name (i := 5) nd rfl (.inl rfl)) (pgs_cons (pg_name (i := 6) nd rfl (.inl rfl)) pgs_nil)))
        (pss_cons (ps_set (i := 7) nd rfl (.inl rfl) (pe_dzip rfl rfl (T.blt _ (by decide)) rfl (T.blt _ (by decide)) (pa_cons (pv 1) (pa_cons (pv 5) pa_nil))))
        (pss_one (ps_if (pt_cmpR op_isBN (pe_ma (pe_fld (pv 0) rfl) (judged_any T n) hr (pa_cons (pv 7) pa_nil)) pe_bl (nomark _))
          (pss_one (ps_expr (pe_bm PySem.F.plainAttrs_list PySem.F.slot_list_append PySem.F.type_list_append L2.mt_append (pv 3) (pa_cons (pe_tup (pa_cons (pe_ifExp (pt_cmp (pc_isN (pe_fld (pv 0) rfl))) pe_non (pe_dget hu (pv 7) (pe_fld (pv 0) rfl) (fun _ _ => rfl))) (pa_cons (pv 6) pa_nil))) pa_nil)))) pss_nil))))))
    (pss_one (ps_ret (pv 3)))), ?_⟩
  refine ⟨Nat.zero_le _, fun l hl => ?_⟩
  have hF0 := hF
  obtain ⟨ex, t1, t2, t3, ks, rr, f1, f2, f3⟩ := hF
  have hclq : Cls K (B k.cl) := T.cls _
  have hNd := Ns_nd hN
  obtain ⟨nn1, nn3⟩ := ns_len3 hN
  have e0 : Ex H (upd H l (.lst [])) := Ex.new hl
  refine ⟨_, rfl, b, rfl, ⟨_, SqT.of (e0 _ _ hb)⟩, for_it walk_tup (fun i σ H' => (∃ z4 z5 z6 z7, σ = [some (.ref q0), some (.ref a), some (.ref b), some (.ref l), z4, z5, z6, z7]) ∧ Ex H H' ∧ ∃ xs : XL, H' l = some (.lst (rfX xs)) ∧ MsIn H' xs (ms F N ak (tabs (ls.take i)))) ⟨⟨none, none, none, none, rfl⟩, e0, [], upd_same, rfl, (fun x hx => nomatch hx)⟩ (fun i σ H' _ p => SqT.of (p.2.1 _ _ hb)) (fun i x σ H1 H2 hi p y => ?_) (fun σ H' p => ?_)⟩
  · obtain ⟨rfl, hx⟩ := y
    obtain ⟨⟨z4, z5, z6, z7, rfl⟩, e1, xs0, hl1, m1⟩ := p
    rw [List.getElem?_map] at hx
    obtain ⟨⟨pL, Tb⟩, hxl, rfl⟩ := Option.map_eq_some_iff.mp hx
    have hmem := List.mem_of_getElem? hxl
    obtain ⟨dy, d, wd, es, g1, g2, g3, g4, g5⟩ := hL _ hmem
    obtain ⟨od, hod, tdo⟩ := g2.at_
    have el : es.length ≤ 20 := by
      have := g4.num
      rw [← g3] at this
      unfold tabE at this
      rwa [List.length_map] at this
    have tl : (tabs (ls.take i)).length ≤ 60 := by
      have h1 : ∀ L : LL, (∀ x, x ∈ L → x.2.length ≤ 20) → (tabs L).length ≤ 20 * L.length := fun L => by
        induction L with
        | nil => exact fun _ => Nat.le_refl _
        | cons y L ih =>
          intro h
          have h2 := h y (List.mem_cons_self ..)
          have h3 := ih fun x hx => h x (List.mem_cons_of_mem _ hx)
          unfold tabs at h3 ⊢
          rw [List.flatMap_cons, List.length_append, List.length_cons]
          omega
      have h2 := h1 (ls.take i) fun x hx => by
        obtain ⟨_, _, _, _, _, _, _, ok, _⟩ := hL x (List.mem_of_mem_take hx)
        exact ok.num
      have h3 : (ls.take i).length ≤ 3 := by rw [List.length_take]; omega
      omega
    refine ⟨_, rfl, pL, _, dy, _, d, od, _, rfl, e1 _ _ g1, rfl, rfl, g2.mono e1, e1 _ _ hod, fun H3 e3 => for_it (walk_ti (d := d) (od := od) (xs := es.map ent)) (fun j σ H' => (∃ z5 z6 z7, σ = [some (.ref q0), some (.ref a), some (.ref b), some (.ref l), some (.ref pL), z5, z6, z7]) ∧ Ex H H' ∧ ∃ xs : XL, H' l = some (.lst (rfX xs)) ∧ MsIn H' xs (ms F N ak (tabs (ls.take i)) ++ ms F N ak (tabE (es.take j)))) ⟨⟨_, _, _, rfl⟩, e1.trans e3, xs0, e3 _ _ hl1, by rw [show ms F N ak (tabE (es.take 0)) = [] from rfl, List.append_nil]; exact m1.mono e3⟩ (fun j σ H' _ p => p.2.1 _ _ hod) (fun j x σ H4 H5 hj p y => ?_) (fun σ H' p => ?_)⟩
    · obtain ⟨T2, e, hx, rfl, hT2, rfl⟩ := y
      obtain ⟨⟨z5, z6, z7, rfl⟩, e4, xs, hl4, m4⟩ := p
      rw [List.getElem?_map] at hx
      obtain ⟨⟨ra, r, t⟩, hxe, rfl⟩ := Option.map_eq_some_iff.mp hx
      have he := List.mem_of_getElem? hxe
      have hr0 : H ra = some (.tup (r.map oV)) := by rw [← lf_V]; exact g2.key (ent (ra, r, t)) (List.mem_map_of_mem he)
      have hrl : r.length = N.length := g4.len (r, t) (by rw [← g3]; exact List.mem_map_of_mem he)
      have nT : Ex H4 (upd H4 T2 (.tup [V.ref (ent (ra, r, t)).2.1, (ent (ra, r, t)).2.2])) := Ex.new hT2
      have e5 := e4.trans nT
      have hl5 := nT _ _ hl4
      have m5 := m4.mono nT
      have xl : xs.length ≤ 80 := by
        have h1 := congrArg List.length m4.1
        rw [List.length_map, List.length_append] at h1
        have h2 := ms_len (F := F) (N := N) (asked := ak) (tabs (ls.take i))
        have h3 := ms_len (F := F) (N := N) (asked := ak) (tabE (es.take j))
        have h4 : (tabE (es.take j)).length ≤ 20 := by unfold tabE; rw [List.length_map, List.length_take]; omega
        omega
      refine ⟨T2, _, rfl, SqT.of upd_same, rfl, _, _, rfl, _, _, rfl, rfl, ?_⟩
      generalize upd H4 T2 (.tup [V.ref (ent (ra, r, t)).2.1, (ent (ra, r, t)).2.2]) = H5 at e5 hl5 m5 ⊢
      refine ⟨_, rfl, _, rfl, a, ra, N, r.map oV, rfl, SqT.of (e5 _ _ ha), SqT.of (e5 _ _ hr0), by rw [List.length_map, hrl], hNd, by omega, fun dt hdt => ?_⟩
      have n6 : Ex H5 (upd H5 dt (.dK ((N.map (Sum.inr : Str → Key)).zip (r.map oV)))) := Ex.new hdt
      have e6 := e5.trans n6
      have hro : RowAt N r (upd H5 dt (.dK ((N.map (Sum.inr : Str → Key)).zip (r.map oV)))) dt := ⟨upd_same, hrl, hNd⟩
      have hl6 := n6 _ _ hl5
      have m6 := m5.mono n6
      generalize upd H5 dt (.dK ((N.map (Sum.inr : Str → Key)).zip (r.map oV))) = H6 at e6 hro hl6 m6
      refine ⟨_, rfl, q0, _, dx, _, _, rfl, e6 _ _ hq, hclq, T.no _ _ (by decide), rfl, f, _, ex, _, rfl, e6 _ _ f1, ⟨_, rfl, flt_cl F⟩, rest_no f3 t1 t2 t3 .mjudged (.inl rfl), _, rfl, ?_⟩
      refine ⟨F, f, _, N, S, rfl, hF0.mono e6, hn, rfl, dt, r, rfl, hro, fun H7 e7 => ?_⟩
      have E7 := e6.trans e7
      have hl7 := e7 _ _ hl6
      have m7 := m6.mono e7
      have hro7 := hro.mono e7
      refine ⟨_, true, rfl, rfl, _, rfl, ?_⟩
      by_cases ev : F.eval (at' N r) = some true
      · rw [decide_eq_true ev]
        have fin : ∀ (v : Option Int) (t' : Addr), sel F N ak r = some v → H7 t' = none → Ex H (upd (upd H7 t' (.tup [oV v, .int t])) l (.lst (rfX xs ++ [.ref t']))) ∧ ∃ xs' : XL, upd (upd H7 t' (.tup [oV v, .int t])) l (.lst (rfX xs ++ [.ref t'])) l = some (.lst (rfX xs')) ∧ MsIn (upd (upd H7 t' (.tup [oV v, .int t])) l (.lst (rfX xs ++ [.ref t']))) xs' (ms F N ak (tabs (ls.take i)) ++ ms F N ak (tabE (es.take (j + 1)))) := fun v t' hs ht => by
          have n8 : Ex H7 (upd H7 t' (.tup [oV v, .int t])) := Ex.new ht
          refine ⟨Ex.mut (E7.trans n8) hl, xs ++ [(t', (v, t))], by rw [upd_same, rfX_snoc], ?_⟩
          rw [ms_take hxe, ms_one hs, ← List.append_assoc]
          exact MsIn.at ((m7.mono n8).snoc (v := (v, t)) upd_same) (n8 _ _ hl7)
        have xsz : (rfX xs).length < sizeLine := by unfold rfX; rw [List.length_map, sizeLine_eq]; omega
        refine iteT ⟨_, rfl, .inl ⟨rfl, _, SqL.of hl7⟩, ?_⟩
        refine ⟨_, rfl, q0, _, dx, _, _, rfl, E7 _ _ hq, hclq, T.no _ _ (by decide), rfl, ?_⟩
        cases ak with
        | none =>
          refine ⟨true, rfl, iteT ⟨_, rfl, two_le, fun t' ht => ⟨l, _, _, rfl, rfl, ?_, xsz, ?_⟩⟩⟩
          · rw [upd_ne (fun z => by rw [← z, hl7] at ht; cases ht)]; exact hl7
          · obtain ⟨h1, xs', h2, h3⟩ := fin none t' (by unfold sel; rw [if_pos ev]) ht
            exact ⟨⟨_, _, _, rfl⟩, h1, xs', h2, h3⟩
        | some c =>
          refine ⟨false, rfl, iteF ⟨_, rfl, _, rfl, q0, _, dx, _, _, rfl, E7 _ _ hq, hclq, T.no _ _ (by decide), rfl, dt, _, rfl, .inl ⟨_, Sum.inr c, .inl hro7.1, rfl, (at_val hro7.2.2 hro7.2.1 (hk c rfl)).symm⟩, ?_⟩⟩
          refine ⟨_, rfl, two_le, fun t' ht => ⟨l, _, _, rfl, rfl, ?_, xsz, ?_⟩⟩
          · rw [upd_ne (fun z => by rw [← z, hl7] at ht; cases ht)]; exact hl7
          · obtain ⟨h1, xs', h2, h3⟩ := fin (at' N r c) t' (by unfold sel; rw [if_pos ev]) ht
            exact ⟨⟨_, _, _, rfl⟩, h1, xs', h2, h3⟩
      · rw [decide_eq_false ev]
        refine iteF ⟨⟨_, _, _, rfl⟩, E7, xs, hl7, ?_⟩
        rw [ms_take hxe, ms_zero (by unfold sel; rw [if_neg ev]), List.append_nil]
        exact m7
    · rw [List.length_map, List.take_length] at p
      obtain ⟨⟨z5, z6, z7, rfl⟩, e4, xs, hl4, m4⟩ := p
      refine ⟨⟨_, _, _, _, rfl⟩, e4, xs, hl4, ?_⟩
      have : ms F N ak (tabs (ls.take (i + 1))) = ms F N ak (tabs (ls.take i)) ++ ms F N ak (tabE es) := by
        rw [← ms_append, List.take_succ, hxl]
        unfold tabs
        rw [List.flatMap_append, g3]
        simp
      rw [this]
      exact m4
  · obtain ⟨⟨z4, z5, z6, z7, rfl⟩, e1, xs, hl1, m1⟩ := p
    rw [List.length_map, List.take_length] at m1
    exact ⟨_, rfl, q l xs H' e1 hl1 m1⟩
end
end Hs
set_option Elab.async false
set_option linter.all false
set_option maxRecDepth 100000
set_option maxHeartbeats 4000000
/-! told: the counts. -/
namespace Hs
open PySem PySem.Spec PyProof.Rows L2
section
variable {P : Program} {w : World} {K : PySem.W.Frag} {mg : Str → Option Value} {base : Heap} {A : Df → Addr} {B Z : Cl → Addr}
theorem take_fm2 {α β : Type} {xs : List α} {F : α → Option β} {i : Nat} {x : α} (h : xs[i]? = some x) : (xs.take (i + 1)).filterMap F = (xs.take i).filterMap F ++ (F x).toList := by
  rw [List.take_succ, h, List.filterMap_append]
  cases hF : F x <;> simp [hF]
/-- a comprehension over the matches -/
theorem lc_ms {xs : XL} {M : ML} {l : Addr} {H1 : Hp} {D : Addr} {g : TG} {tt : TT} {te : TE} {vs : List Nat} {σ : L2.St} {Qd : Hp → Prop} (hM : MsIn H1 xs M) (hl : H1 l = some (.lst (rfX xs))) (hD : H1 D = none) (hn : xs.length ≤ 1000) (F : Option Int × Int → Option V)
    (ht : ∀ (p : Option Int × Int) (a : Addr) H, p ∈ M → H a = some (.tup [oV p.1, .int p.2]) → Ex H1 H → ∀ (KK : V → Hp → Prop) (KN : Hp → Prop), (∀ y H4, Ex H H4 → F p = some y → KK y H4) → (∀ H3, Ex H H3 → F p = none → KN H3) →
      g (.ref a) (wipe σ vs) H fun σ2 H2 => wipe σ2 vs = wipe σ vs ∧ tt σ2 H2 fun b H3 => if b = true then te σ2 H3 KK else KN H3)
    (hd : ∀ H', Ex H1 H' → H' D = some (.lst (M.filterMap F)) → Qd H') :
    ∃ W : Nat → Nat → Hp → Prop, (∃ m, W 0 m (upd H1 D (.lst []))) ∧ ∀ i m H, W i m H →
      ((Itl K l).stop i H ∧ Qd H) ∨ ((Itl K l).go i H ∧ ∃ Nx : Hp → Prop, (∀ H', Nx H' → ∃ m', m' < m ∧ W (i + 1) m' H') ∧ ∀ x H', (Itl K l).yld i H x H' → g x (wipe σ vs) H' fun σ2 H2 => wipe σ2 vs = wipe σ vs ∧ tt σ2 H2 fun b H3 =>
        if b = true then te σ2 H3 fun y H4 => ∃ acc, H4 D = some (.lst acc) ∧ acc.length < sizeLine ∧ Nx (upd H4 D (.lst (acc ++ [y]))) else Nx H3) := by
  have hlen : M.length = xs.length := by rw [← hM.1, List.length_map]
  refine lc_it (walk_list (xs := rfX xs)) (fun i H => Ex H1 H ∧ H D = some (.lst ((M.take i).filterMap F))) ⟨Ex.new hD, by rw [List.take_zero]; exact upd_same⟩ (fun i H _ p => SqL.of (p.1 _ _ hl)) (fun i x H H' hi p y => ?_) (fun H p => hd H p.1 ?_)
  · obtain ⟨rfl, hx⟩ := y
    unfold rfX at hx
    rw [List.getElem?_map] at hx
    obtain ⟨x, hxa, rfl⟩ := Option.map_eq_some_iff.mp hx
    have hxm := List.mem_of_getElem? hxa
    have hp : M[i]? = some x.2 := by rw [← hM.1, List.getElem?_map, hxa]; rfl
    refine ht x.2 x.1 _ (List.mem_of_getElem? hp) (p.1 _ _ (hM.2 x hxm)) p.1 _ _ (fun y H4 e hF => ⟨_, e _ _ p.2, ?_, ?_, ?_⟩) (fun H3 e hF => ⟨p.1.trans e, ?_⟩)
    · have := List.length_filterMap_le F (M.take i)
      have h2 : (M.take i).length ≤ M.length := by rw [List.length_take]; omega
      rw [sizeLine_eq]; omega
    · exact Ex.mut (p.1.trans e) hD
    · rw [upd_same, take_fm2 hp, hF]; rfl
    · rw [take_fm2 hp, hF]
      simpa using e _ _ p.2
  · have e : (rfX xs).length = M.length := by unfold rfX; rw [List.length_map, hlen]
    rw [← List.take_length (l := M), ← e]
    exact p.2
def Ans (k : Kd) (M : ML) (v : V) (H : Hp) : Prop := match k with
  | .some => v = .bl (decide (0 < M.length))
  | .many => v = .int (Hs.many M)
  | .atLeast m => v = .bl (decide (m ≤ Hs.many M))
  | .greatest _ => ∃ o, v = oV o ∧ IsMax (vals M) o
  | .least _ => ∃ o, v = oV o ∧ IsMin (vals M) o
  | .total _ => v = .int (Hs.total M)
  | .top m _ => ∃ t L, v = .ref t ∧ H t = Option.some (.tup (L.map V.int)) ∧ IsTop m.toNat (flat m.toNat M) L
structure MBd (M : ML) : Prop where
  pos : AllPos M
  num : M.length ≤ 15
  val : ∀ p, p ∈ M → ∀ v, p.1 = some v → v.natAbs < 2 ^ 70
  tim : ∀ p, p ∈ M → p.2.natAbs < 2 ^ 100
def KdOk (k : Kd) : Prop := ∀ m c, k = .top m c → 1 ≤ m ∧ m ≤ 4
/-- told of a question of the kind -/
def spTold (B : Cl → Addr) (k : Kd) : Sp := fun vs H Q _ => ∃ (q l dx f : Addr) (xs : XL) (M : ML), vs = [.ref q, .ref l] ∧ H q = some (.ins (B k.cl) dx (qF f (oS k.asked) (oV k.quota))) ∧ H l = some (.lst (rfX xs)) ∧ MsIn H xs M ∧ MBd M ∧ KdOk k ∧ ∀ v H', Ex H H' → Ans k M v H' → Q v H'
theorem fm_tim (M : ML) : (M.filterMap fun p => some (V.int p.2)) = (M.map (·.2)).map V.int := by
  induction M with
  | nil => rfl
  | cons p M ih => rw [List.filterMap_cons, ih]; rfl
theorem xs_len {H : Hp} {xs : XL} {M : ML} (h : MsIn H xs M) (b : MBd M) : xs.length ≤ 15 := by
  have := b.num
  rw [← h.1, List.length_map] at this
  exact this
abbrev g2 (K : PySem.W.Frag) (i j : Nat) : TG := gTup K 2 (gCons (gName i) (gCons (gName j) gNil))
/-! ### Many -/
theorem sc_tQ : FnScope ["self", "pairs", "value", "times"] ["self", "pairs"] (defScope (Df.st .dQuestion_told)) := ⟨rfl, rfl, rfl, by decide +kernel, rfl, by decide +kernel, by decide +kernel⟩
theorem ok_tQ (T : Txt P K mg A B Z) : FnR P w K mg base CX0 1 (A .dQuestion_told) (spTold B .many) := by
  refine (T.d0 .dQuestion_told).fn sc_tQ (fun _ _ _ _ _ _ us h => by obtain ⟨a, b, rfl⟩ := len2 h; rfl) (fun vs H Q E h => by obtain ⟨_, _, _, _, _, _, rfl, _⟩ := h; rfl) fun cdv Ar outer s H vs Q E hr h => ?_
  obtain ⟨q0, l, dx, f, xs, M, rfl, hq, hl, hM, bd, ok, q⟩ := h
  have nd := sc_tQ.nd
  refine ⟨_, pss_one (ps_ret (pe_callB (cr_sum rfl) rfl (T.blt _ (by decide)) (by decide +kernel) (pa_cons (pe_lc (own := [("value", 2), ("times", 3)]) (g := g2 K 2 3) (tt := tYes) rfl nd (pi_list (pv 1)) (blkOk_by (N := ["self", "pairs", "value", "times"]) (sc := defScope (Df.st .dQuestion_told)) (by decide +kernel))
    (fun _ _ _ _ _ => pg_tup rfl (pgs_cons (pg_name (i := 2) nd rfl (.inl rfl)) (pgs_cons (pg_name (i := 3) nd rfl (.inl rfl)) pgs_nil))) (fun _ _ _ _ _ => pts_nil) (fun _ _ _ _ _ => pv 3)) pa_nil))), ?_⟩
  have xl := xs_len hM bd
  refine ⟨_, rfl, l, rfl, ⟨_, SqL.of hl⟩, fun D hD => lc_ms hM hl hD (by omega) (fun p => some (.int p.2)) (fun p a H5 hp ha e5 KK KN k1 k2 => ?_) fun H1 e1 h1 => ?_⟩
  · exact ⟨a, _, rfl, SqT.of ha, rfl, _, _, rfl, _, _, rfl, rfl, rfl, _, rfl, k1 _ _ (Ex.refl _) rfl⟩
  rw [fm_tim] at h1
  exact ⟨D, _, rfl, SqL.of h1, q _ _ e1 rfl⟩
/-! ### Some -/
theorem sc_tS : FnScope ["self", "pairs"] ["self", "pairs"] (defScope (Df.st .dSome_told)) := ⟨rfl, rfl, rfl, by decide +kernel, rfl, by decide +kernel, by decide +kernel⟩
theorem ok_tS (T : Txt P K mg A B Z) : FnR P w K mg base CX0 1 (A .dSome_told) (spTold B .some) := by
  refine (T.d0 .dSome_told).fn sc_tS (fun _ _ _ _ _ _ us h => by obtain ⟨a, b, rfl⟩ := len2 h; rfl) (fun vs H Q E h => by obtain ⟨_, _, _, _, _, _, rfl, _⟩ := h; rfl) fun cdv Ar outer s H vs Q E hr h => ?_
  obtain ⟨q0, l, dx, f, xs, M, rfl, hq, hl, hM, bd, ok, q⟩ := h
  refine ⟨_, pss_one (ps_ret (pe_cmpR op_gt (pe_callB call_len_seq rfl (T.blt _ (by decide)) PySem.boot_len (pa_cons (pv 1) pa_nil)) pe_int (nomark _))), ?_⟩
  refine ⟨_, rfl, l, _, rfl, .inl (SqL.of hl), _, 0, rfl, rfl, q _ _ (Ex.refl H) ?_⟩
  have e : (rfX xs).length = M.length := by unfold rfX; rw [← hM.1, List.length_map, List.length_map]
  rw [e]
  show V.bl (decide ((0 : Int) < (M.length : Nat))) = V.bl (decide (0 < M.length))
  congr 1
  exact decide_eq_decide.mpr (by omega)
/-! ### AtLeast -/
theorem sc_tA : FnScope ["self", "pairs", "value", "times"] ["self", "pairs"] (defScope (Df.st .dAtLeast_told)) := ⟨rfl, rfl, rfl, by decide +kernel, rfl, by decide +kernel, by decide +kernel⟩
theorem ok_tA (T : Txt P K mg A B Z) (m : Int) : FnR P w K mg base CX0 1 (A .dAtLeast_told) (spTold B (.atLeast m)) := by
  refine (T.d0 .dAtLeast_told).fn sc_tA (fun _ _ _ _ _ _ us h => by obtain ⟨a, b, rfl⟩ := len2 h; rfl) (fun vs H Q E h => by obtain ⟨_, _, _, _, _, _, rfl, _⟩ := h; rfl) fun cdv Ar outer s H vs Q E hr h => ?_
  obtain ⟨q0, l, dx, f, xs, M, rfl, hq, hl, hM, bd, ok, q⟩ := h
  have nd := sc_tA.nd
  refine ⟨_, pss_one (ps_ret (pe_cmpR op_ge (pe_callB (cr_sum rfl) rfl (T.blt _ (by decide)) (by decide +kernel) (pa_cons (pe_lc (own := [("value", 2), ("times", 3)]) (g := g2 K 2 3) (tt := tYes) rfl nd (pi_list (pv 1)) (blkOk_by (N := ["self", "pairs", "value", "times"]) (sc := defScope (Df.st .dAtLeast_told)) (by decide +kernel))
    (fun _ _ _ _ _ => pg_tup rfl (pgs_cons (pg_name (i := 2) nd rfl (.inl rfl)) (pgs_cons (pg_name (i := 3) nd rfl (.inl rfl)) pgs_nil))) (fun _ _ _ _ _ => pts_nil) (fun _ _ _ _ _ => pv 3)) pa_nil)) (pe_fld (pv 0) rfl) (nomark _))), ?_⟩
  have xl := xs_len hM bd
  refine ⟨_, rfl, l, rfl, ⟨_, SqL.of hl⟩, fun D hD => lc_ms hM hl hD (by omega) (fun p => some (.int p.2)) (fun p a H5 hp ha e5 KK KN k1 k2 => ?_) fun H1 e1 h1 => ?_⟩
  · exact ⟨a, _, rfl, SqT.of ha, rfl, _, _, rfl, _, _, rfl, rfl, rfl, _, rfl, k1 _ _ (Ex.refl _) rfl⟩
  rw [fm_tim] at h1
  refine ⟨D, _, rfl, SqL.of h1, _, rfl, q0, _, dx, _, _, rfl, e1 _ _ hq, T.cls _, T.no _ _ (by decide), rfl, _, m, rfl, rfl, q _ _ e1 rfl⟩
/-! ### Total -/
def fTot (p : Option Int × Int) : Option V := p.1.map fun v => .int (v * p.2)
theorem fm_tot (M : ML) : M.filterMap fTot = (M.filterMap fun p => p.1.map fun v => v * p.2).map V.int := by
  rw [List.map_filterMap]
  congr 1
  funext p
  unfold fTot
  cases p.1 <;> rfl
theorem sc_tT : FnScope ["self", "pairs", "value", "times"] ["self", "pairs"] (defScope (Df.st .dTotal_told)) := ⟨rfl, rfl, rfl, by decide +kernel, rfl, by decide +kernel, by decide +kernel⟩
theorem ok_tT (T : Txt P K mg A B Z) (c : Str) : FnR P w K mg base CX0 1 (A .dTotal_told) (spTold B (.total c)) := by
  refine (T.d0 .dTotal_told).fn sc_tT (fun _ _ _ _ _ _ us h => by obtain ⟨a, b, rfl⟩ := len2 h; rfl) (fun vs H Q E h => by obtain ⟨_, _, _, _, _, _, rfl, _⟩ := h; rfl) fun cdv Ar outer s H vs Q E hr h => ?_
  obtain ⟨q0, l, dx, f, xs, M, rfl, hq, hl, hM, bd, ok, q⟩ := h
  have nd := sc_tT.nd
  refine ⟨_, pss_one (ps_ret (pe_callB (cr_sum rfl) rfl (T.blt _ (by decide)) (by decide +kernel) (pa_cons (pe_lc (own := [("value", 2), ("times", 3)]) (g := g2 K 2 3) rfl nd (pi_list (pv 1)) (blkOk_by (N := ["self", "pairs", "value", "times"]) (sc := defScope (Df.st .dTotal_told)) (by decide +kernel))
    (fun _ _ _ _ _ => pg_tup rfl (pgs_cons (pg_name (i := 2) nd rfl (.inl rfl)) (pgs_cons (pg_name (i := 3) nd rfl (.inl rfl)) pgs_nil))) (fun _ _ _ _ _ => pts_one (pt_cmp (pc_notN (pv 2)))) (fun _ _ _ _ _ => pe_op op_mulW (pv 2) (pv 3))) pa_nil))), ?_⟩
  have xl := xs_len hM bd
  refine ⟨_, rfl, l, rfl, ⟨_, SqL.of hl⟩, fun D hD => lc_ms hM hl hD (by omega) fTot (fun p a H5 hp ha e5 KK KN k1 k2 => ?_) fun H1 e1 h1 => ?_⟩
  · refine ⟨a, _, rfl, SqT.of ha, rfl, _, _, rfl, _, _, rfl, rfl, rfl, ?_⟩
    obtain ⟨o, t⟩ := p
    cases o with
    | none => exact ⟨_, rfl, false, rfl, iteF (k2 _ (Ex.refl _) rfl)⟩
    | some v => exact ⟨_, rfl, true, rfl, iteT ⟨_, rfl, _, rfl, v, t, rfl, rfl, wide_mul (bd.val _ hp v rfl) (bd.tim _ hp) (by decide) (by decide) (by decide), k1 _ _ (Ex.refl _) rfl⟩⟩
  rw [fm_tot] at h1
  exact ⟨D, _, rfl, SqL.of h1, q _ _ e1 rfl⟩
end
end Hs
set_option Elab.async false
set_option linter.all false
set_option maxRecDepth 100000
set_option maxHeartbeats 4000000
/-! joined. -/
namespace Hs
open PySem PySem.Spec PyProof.Rows L2
section
variable {P : Program} {w : World} {K : PySem.W.Frag} {mg : Str → Option Value} {base : Heap} {A : Df → Addr} {B Z : Cl → Addr}
def spJoS : Sp := fun vs H Q _ => ∃ (q : Addr) (ns : List Int), vs = .ref q :: ns.map V.int ∧ ns.length ≤ 1000 ∧ ∀ H', Ex H H' → Q (.int ns.sum) H'
theorem sc_joQ : FnScope ["self", "answers"] ["self", "answers"] (defScope (Df.st .dQuestion_joined)) := ⟨rfl, rfl, rfl, by decide +kernel, rfl, by decide +kernel, by decide +kernel⟩
theorem ok_joQ (T : Txt P K mg A B Z) : FnR P w K mg base CX0 1 (A .dQuestion_joined) spJoS := by
  refine FnR.imp ((T.d0 .dQuestion_joined).fnStar (k := 0) (ps := ["self"]) (pv := "answers") (sp := fun vs H Q _ => ∃ (q t : Addr) (ns : List Int), vs = [.ref q, .ref t] ∧ H t = some (.tup (ns.map V.int)) ∧ Q (.int ns.sum) H) sc_joQ (fun _ _ _ _ _ _ us rest h => by obtain ⟨a, rfl⟩ := len1 h; cases rest <;> rfl) fun cdv Ar outer s H vs Q E hr h => ?_) fun vs H Q E h => ?_
  · obtain ⟨q0, t, ns, rfl, ht, q⟩ := h
    refine ⟨_, pss_one (ps_ret (pe_callB (cr_sumT rfl) rfl (T.blt _ (by decide)) (by decide +kernel) (pa_cons (pv 1) pa_nil))), ?_⟩
    exact ⟨_, rfl, t, ns, rfl, SqT.of ht, q⟩
  · obtain ⟨q0, ns, rfl, hn, q⟩ := h
    exact ⟨[.ref q0], ns.map V.int, rfl, rfl, by rw [List.length_map, sizeLine_eq]; omega, fun t ht => ⟨q0, t, ns, rfl, upd_same, q _ (Ex.new ht)⟩⟩
def spJoA : Sp := fun vs H Q _ => ∃ (q : Addr) (bs : List Bool), vs = .ref q :: bs.map V.bl ∧ bs.length ≤ 1000 ∧ ∀ H', Ex H H' → Q (.bl (bs.any id)) H'
theorem sc_joS : FnScope ["self", "answers"] ["self", "answers"] (defScope (Df.st .dSome_joined)) := ⟨rfl, rfl, rfl, by decide +kernel, rfl, by decide +kernel, by decide +kernel⟩
theorem ok_joS (T : Txt P K mg A B Z) : FnR P w K mg base CX0 1 (A .dSome_joined) spJoA := by
  refine FnR.imp ((T.d0 .dSome_joined).fnStar (k := 0) (ps := ["self"]) (pv := "answers") (sp := fun vs H Q _ => ∃ (q t : Addr) (bs : List Bool), vs = [.ref q, .ref t] ∧ H t = some (.tup (bs.map V.bl)) ∧ Q (.bl (bs.any id)) H) sc_joS (fun _ _ _ _ _ _ us rest h => by obtain ⟨a, rfl⟩ := len1 h; cases rest <;> rfl) fun cdv Ar outer s H vs Q E hr h => ?_) fun vs H Q E h => ?_
  · obtain ⟨q0, t, ns, rfl, ht, q⟩ := h
    refine ⟨_, pss_one (ps_ret (pe_callB (cr_anyT rfl) rfl (T.blt _ (by decide)) (by decide +kernel) (pa_cons (pv 1) pa_nil))), ?_⟩
    exact ⟨_, rfl, t, ns, rfl, SqT.of ht, q⟩
  · obtain ⟨q0, ns, rfl, hn, q⟩ := h
    exact ⟨[.ref q0], ns.map V.bl, rfl, rfl, by rw [List.length_map, sizeLine_eq]; omega, fun t ht => ⟨q0, t, ns, rfl, upd_same, q _ (Ex.new ht)⟩⟩
/-! ### Greatest, Least -/
def fO : V → Option V
  | .int i => some (.int i)
  | _ => none
theorem fm_o (os : List (Option Int)) : (os.map oV).filterMap fO = (os.filterMap id).map V.int := by
  induction os with
  | nil => rfl
  | cons o os ih =>
    cases o with
    | none => show ((V.non :: os.map oV).filterMap fO) = _; rw [List.filterMap_cons, show fO .non = none from rfl, ih]; rfl
    | some i => show ((V.int i :: os.map oV).filterMap fO) = _; rw [List.filterMap_cons, show fO (.int i) = some (.int i) from rfl, ih]; rfl
theorem max_of {ns : List Int} (h : ns ≠ []) : ∃ m, m ∈ ns ∧ ∀ y, y ∈ ns → y ≤ m := by
  induction ns with
  | nil => exact absurd rfl h
  | cons n ns ih =>
    by_cases e : ns = []
    · subst e
      exact ⟨n, List.mem_cons_self .., fun y hy => by rw [List.mem_singleton.mp hy]; exact Int.le_refl _⟩
    · obtain ⟨m, hm, h2⟩ := ih e
      by_cases c : n ≤ m
      · exact ⟨m, List.mem_cons_of_mem _ hm, fun y hy => (List.mem_cons.mp hy).elim (fun z => by rw [z]; exact c) (h2 y)⟩
      · exact ⟨n, List.mem_cons_self .., fun y hy => (List.mem_cons.mp hy).elim (fun z => by rw [z]; exact Int.le_refl _) fun z => by have := h2 y z; omega⟩
def spJoX (IsX : List Int → Option Int → Prop) : Sp := fun vs H Q _ => ∃ (q : Addr) (os : List (Option Int)), vs = .ref q :: os.map oV ∧ os.length ≤ 1000 ∧ ∀ o H', Ex H H' → IsX (os.filterMap id) o → Q (oV o) H'
theorem sc_joG : FnScope ["self", "answers", "answer"] ["self", "answers"] (defScope (Df.st .dGreatest_joined)) := ⟨rfl, rfl, rfl, by decide +kernel, rfl, by decide +kernel, by decide +kernel⟩
theorem ok_joG (T : Txt P K mg A B Z) : FnR P w K mg base CX0 1 (A .dGreatest_joined) (spJoX IsMax) := by
  refine FnR.imp ((T.d0 .dGreatest_joined).fnStar (k := 0) (ps := ["self"]) (pv := "answers") (sp := fun vs H Q _ => ∃ (q t : Addr) (os : List (Option Int)), vs = [.ref q, .ref t] ∧ H t = some (.tup (os.map oV)) ∧ os.length ≤ 1000 ∧ ∀ o H', Ex H H' → IsMax (os.filterMap id) o → Q (oV o) H') sc_joG (fun _ _ _ _ _ _ us rest h => by obtain ⟨a, rfl⟩ := len1 h; cases rest <;> rfl) fun cdv Ar outer s H vs Q E hr h => ?_) fun vs H Q E h => ?_
  · obtain ⟨q0, t, os, rfl, ht, hn, q⟩ := h
    have nd := sc_joG.nd
    refine ⟨_, pss_one (ps_ret (pe_callBK (cr_maxD rfl) rfl (T.blt _ (by decide)) (by decide +kernel) (pa_cons (pe_lc (own := [("answer", 2)]) (g := gName 2) rfl nd (pi_tup (pv 1)) (blkOk_by (N := ["self", "answers", "answer"]) (sc := defScope (Df.st .dGreatest_joined)) (by decide +kernel))
      (fun _ _ _ _ _ => pg_name (i := 2) nd rfl (.inl rfl)) (fun _ _ _ _ _ => pts_one (pt_cmp (pc_notN (pv 2)))) (fun _ _ _ _ _ => pe_callTy call_int1 rfl (T.blt _ (by decide)) (by decide +kernel) (pa_cons (pv 2) pa_nil))) pa_nil) (pk_cons pe_non pk_nil))), ?_⟩
    refine ⟨_, rfl, t, rfl, ⟨_, SqT.of ht⟩, fun D hD => lc_at walk_tup (fun H' e => SqT.of (e _ _ ht)) hD (by rw [List.length_map]; exact hn) fO (fun x H5 hx e5 KK KN k1 k2 => ?_) fun H1 e1 h1 => ?_⟩
    · obtain ⟨o, rfl⟩ := oV_all hx
      cases o with
      | none => exact ⟨rfl, _, rfl, false, rfl, iteF (k2 _ (Ex.refl _) rfl)⟩
      | some i => exact ⟨rfl, _, rfl, true, rfl, iteT ⟨_, rfl, .inl ⟨i, rfl, k1 _ _ (Ex.refl _) rfl⟩⟩⟩
    rw [fm_o] at h1
    refine ⟨D, _, rfl, rfl, SqL.of h1, fun e => q none H1 e1 e, fun m hm h2 => q (some m) H1 e1 ⟨hm, h2⟩⟩
  · obtain ⟨q0, os, rfl, hn, q⟩ := h
    exact ⟨[.ref q0], os.map oV, rfl, rfl, by rw [List.length_map, sizeLine_eq]; omega, fun t ht => ⟨q0, t, os, rfl, upd_same, hn, fun o H' e => q o H' ((Ex.new ht).trans e)⟩⟩
theorem sc_joL : FnScope ["self", "answers", "answer"] ["self", "answers"] (defScope (Df.st .dLeast_joined)) := ⟨rfl, rfl, rfl, by decide +kernel, rfl, by decide +kernel, by decide +kernel⟩
theorem ok_joL (T : Txt P K mg A B Z) : FnR P w K mg base CX0 1 (A .dLeast_joined) (spJoX IsMin) := by
  refine FnR.imp ((T.d0 .dLeast_joined).fnStar (k := 0) (ps := ["self"]) (pv := "answers") (sp := fun vs H Q _ => ∃ (q t : Addr) (os : List (Option Int)), vs = [.ref q, .ref t] ∧ H t = some (.tup (os.map oV)) ∧ os.length ≤ 1000 ∧ ∀ o H', Ex H H' → IsMin (os.filterMap id) o → Q (oV o) H') sc_joL (fun _ _ _ _ _ _ us rest h => by obtain ⟨a, rfl⟩ := len1 h; cases rest <;> rfl) fun cdv Ar outer s H vs Q E hr h => ?_) fun vs H Q E h => ?_
  · obtain ⟨q0, t, os, rfl, ht, hn, q⟩ := h
    have nd := sc_joL.nd
    refine ⟨_, pss_one (ps_ret (pe_callBK (cr_minD rfl) rfl (T.blt _ (by decide)) (by decide +kernel) (pa_cons (pe_lc (own := [("answer", 2)]) (g := gName 2) rfl nd (pi_tup (pv 1)) (blkOk_by (N := ["self", "answers", "answer"]) (sc := defScope (Df.st .dLeast_joined)) (by decide +kernel))
      (fun _ _ _ _ _ => pg_name (i := 2) nd rfl (.inl rfl)) (fun _ _ _ _ _ => pts_one (pt_cmp (pc_notN (pv 2)))) (fun _ _ _ _ _ => pe_callTy call_int1 rfl (T.blt _ (by decide)) (by decide +kernel) (pa_cons (pv 2) pa_nil))) pa_nil) (pk_cons pe_non pk_nil))), ?_⟩
    refine ⟨_, rfl, t, rfl, ⟨_, SqT.of ht⟩, fun D hD => lc_at walk_tup (fun H' e => SqT.of (e _ _ ht)) hD (by rw [List.length_map]; exact hn) fO (fun x H5 hx e5 KK KN k1 k2 => ?_) fun H1 e1 h1 => ?_⟩
    · obtain ⟨o, rfl⟩ := oV_all hx
      cases o with
      | none => exact ⟨rfl, _, rfl, false, rfl, iteF (k2 _ (Ex.refl _) rfl)⟩
      | some i => exact ⟨rfl, _, rfl, true, rfl, iteT ⟨_, rfl, .inl ⟨i, rfl, k1 _ _ (Ex.refl _) rfl⟩⟩⟩
    rw [fm_o] at h1
    refine ⟨D, _, rfl, rfl, SqL.of h1, fun e => q none H1 e1 e, fun m hm h2 => q (some m) H1 e1 ⟨hm, h2⟩⟩
  · obtain ⟨q0, os, rfl, hn, q⟩ := h
    exact ⟨[.ref q0], os.map oV, rfl, rfl, by rw [List.length_map, sizeLine_eq]; omega, fun t ht => ⟨q0, t, os, rfl, upd_same, hn, fun o H' e => q o H' ((Ex.new ht).trans e)⟩⟩
end
end Hs
set_option Elab.async false
set_option linter.all false
set_option maxRecDepth 100000
set_option maxHeartbeats 4000000
/-! told: Greatest, Least. -/
namespace Hs
open PySem PySem.Spec PyProof.Rows L2
section
variable {P : Program} {w : World} {K : PySem.W.Frag} {mg : Str → Option Value} {base : Heap} {A : Df → Addr} {B Z : Cl → Addr}
theorem joined_any (T : Txt P K mg A B Z) {c : Cl} {d : Df} {sp : Sp} {k : Nat} (h : look c .mjoined = some d) (F : FnR P w K mg base CX0 k (A d) sp) {X : Cx} (hX : X.prog = P ∧ X.w = w ∧ X.K = K ∧ X.mg = mg ∧ X.base = base) : MethAnyB X "joined" k (fun _ => sp) (fun C => C = B c) := by
  obtain ⟨rfl, rfl, rfl, rfl, rfl⟩ := hX
  rintro C rfl
  exact ⟨T.cls _, A d, ⟨⟨T.fnd c .mjoined d h, T.isF d, (T.dk d).kp⟩, T.gf d, T.tk d, by decide +kernel, T.fi d⟩, F⟩
def fVal (p : Option Int × Int) : Option V := some (oV p.1)
theorem fm_val (M : ML) : M.filterMap fVal = (M.map (·.1)).map oV := by
  induction M with
  | nil => rfl
  | cons p M ih => rw [List.filterMap_cons, show fVal p = some (oV p.1) from rfl, ih]; rfl
theorem vals_id (M : ML) : (M.map (·.1)).filterMap id = vals M := by
  unfold vals
  rw [List.filterMap_map]; rfl
theorem sc_tGreatest : FnScope ["self", "pairs", "values", "value", "times"] ["self", "pairs"] (defScope (Df.st .dGreatest_told)) := ⟨rfl, rfl, rfl, by decide +kernel, rfl, by decide +kernel, by decide +kernel⟩
theorem ok_tGreatest (T : Txt P K mg A B Z) (c : Str) : FnR P w K mg base CX0 2 (A .dGreatest_told) (spTold B (.greatest c)) := by
  refine (T.d0 .dGreatest_told).fn sc_tGreatest (fun _ _ _ _ _ _ us h => by obtain ⟨a, b, rfl⟩ := len2 h; rfl) (fun vs H Q E h => by obtain ⟨_, _, _, _, _, _, rfl, _⟩ := h; rfl) fun cdv Ar outer s H vs Q E hr h => ?_
  obtain ⟨q0, l, dx, f, xs, M, rfl, hq, hl, hM, bd, ok, q⟩ := h
  have nd := sc_tGreatest.nd
  refine ⟨_, pss_cons (ps_setLc (i := 2) (own := [("value", 3), ("times", 4)]) (g := g2 K 3 4) (tt := tYes) rfl nd rfl rfl (sw_true rfl rfl rfl (by decide +kernel)) (pi_list (pv 1)) (blkOk_by (N := ["self", "pairs", "values", "value", "times"]) (sc := defScope (Df.st .dGreatest_told)) (by decide +kernel))
      (fun _ _ _ _ _ => pg_tup rfl (pgs_cons (pg_name (i := 3) nd rfl (.inl rfl)) (pgs_cons (pg_name (i := 4) nd rfl (.inl rfl)) pgs_nil))) (fun _ _ _ _ _ => pts_nil) (fun _ _ _ _ _ => pv 3))
    (pss_one (ps_ret (pe_mas (pv 0) (joined_any T (c := .cGreatest) rfl (ok_joG T) ⟨rfl, rfl, rfl, rfl, rfl⟩) hr (pv 2)))), ?_⟩
  have xl := xs_len hM bd
  refine ⟨_, rfl, l, rfl, ⟨_, SqL.of hl⟩, fun D hD => lc_ms hM hl hD (by omega) fVal (fun p a H5 hp ha e5 KK KN k1 k2 => ?_) fun H1 e1 h1 => ?_⟩
  · exact ⟨a, _, rfl, SqT.of ha, rfl, _, _, rfl, _, _, rfl, rfl, rfl, _, rfl, k1 _ _ (Ex.refl _) rfl⟩
  rw [fm_val] at h1
  refine ⟨_, rfl, q0, _, dx, _, rfl, e1 _ _ hq, rfl, rfl, fun q1 g hq1 => ⟨_, rfl, D, _, rfl, .inr (SqL.of ((Ex.new hq1) _ _ h1)), upd_same, q0, M.map (·.1), rfl, by rw [List.length_map]; have := bd.num; omega, fun o H' e hx => ?_⟩⟩
  rw [vals_id] at hx
  exact q _ _ ((e1.trans (Ex.new hq1)).trans e) ⟨o, rfl, hx⟩
theorem sc_tLeast : FnScope ["self", "pairs", "values", "value", "times"] ["self", "pairs"] (defScope (Df.st .dLeast_told)) := ⟨rfl, rfl, rfl, by decide +kernel, rfl, by decide +kernel, by decide +kernel⟩
theorem ok_tLeast (T : Txt P K mg A B Z) (c : Str) : FnR P w K mg base CX0 2 (A .dLeast_told) (spTold B (.least c)) := by
  refine (T.d0 .dLeast_told).fn sc_tLeast (fun _ _ _ _ _ _ us h => by obtain ⟨a, b, rfl⟩ := len2 h; rfl) (fun vs H Q E h => by obtain ⟨_, _, _, _, _, _, rfl, _⟩ := h; rfl) fun cdv Ar outer s H vs Q E hr h => ?_
  obtain ⟨q0, l, dx, f, xs, M, rfl, hq, hl, hM, bd, ok, q⟩ := h
  have nd := sc_tLeast.nd
  refine ⟨_, pss_cons (ps_setLc (i := 2) (own := [("value", 3), ("times", 4)]) (g := g2 K 3 4) (tt := tYes) rfl nd rfl rfl (sw_true rfl rfl rfl (by decide +kernel)) (pi_list (pv 1)) (blkOk_by (N := ["self", "pairs", "values", "value", "times"]) (sc := defScope (Df.st .dLeast_told)) (by decide +kernel))
      (fun _ _ _ _ _ => pg_tup rfl (pgs_cons (pg_name (i := 3) nd rfl (.inl rfl)) (pgs_cons (pg_name (i := 4) nd rfl (.inl rfl)) pgs_nil))) (fun _ _ _ _ _ => pts_nil) (fun _ _ _ _ _ => pv 3))
    (pss_one (ps_ret (pe_mas (pv 0) (joined_any T (c := .cLeast) rfl (ok_joL T) ⟨rfl, rfl, rfl, rfl, rfl⟩) hr (pv 2)))), ?_⟩
  have xl := xs_len hM bd
  refine ⟨_, rfl, l, rfl, ⟨_, SqL.of hl⟩, fun D hD => lc_ms hM hl hD (by omega) fVal (fun p a H5 hp ha e5 KK KN k1 k2 => ?_) fun H1 e1 h1 => ?_⟩
  · exact ⟨a, _, rfl, SqT.of ha, rfl, _, _, rfl, _, _, rfl, rfl, rfl, _, rfl, k1 _ _ (Ex.refl _) rfl⟩
  rw [fm_val] at h1
  refine ⟨_, rfl, q0, _, dx, _, rfl, e1 _ _ hq, rfl, rfl, fun q1 g hq1 => ⟨_, rfl, D, _, rfl, .inr (SqL.of ((Ex.new hq1) _ _ h1)), upd_same, q0, M.map (·.1), rfl, by rw [List.length_map]; have := bd.num; omega, fun o H' e hx => ?_⟩⟩
  rw [vals_id] at hx
  exact q _ _ ((e1.trans (Ex.new hq1)).trans e) ⟨o, rfl, hx⟩
end
end Hs
set_option Elab.async false
set_option linter.all false
set_option maxRecDepth 100000
set_option maxHeartbeats 4000000
/-! Top: told, joined. -/
namespace Hs
open PySem PySem.Spec PyProof.Rows L2
section
variable {P : Program} {w : World} {K : PySem.W.Frag} {mg : Str → Option Value} {base : Heap} {A : Df → Addr} {B Z : Cl → Addr}
abbrev TL := List (Addr × List Int)
def rfT (ls : TL) : List V := ls.map fun x => V.ref x.1
def TlAt (H : Hp) (ls : TL) : Prop := ∀ x, x ∈ ls → H x.1 = some (.tup (x.2.map V.int))
theorem TlAt.mono {H H' : Hp} {ls : TL} (h : TlAt H ls) (e : Ex H H') : TlAt H' ls := fun x hx => e _ _ (h x hx)
theorem cut_to {xs : List V} {m : Int} (h : 0 ≤ m) : cutV xs none (some m) = xs.take m.toNat := by
  unfold cutV
  show (xs.drop 0).take ((if m < 0 then (m + (xs.length : Int)).toNat else min m.toNat xs.length) - 0) = _
  rw [if_neg (by omega), List.drop_zero, Nat.sub_zero]
  rcases Nat.le_total m.toNat xs.length with e | e
  · rw [Nat.min_eq_left e]
  · rw [Nat.min_eq_right e, List.take_length, List.take_of_length_le e]
def spJoT (B : Cl → Addr) (m : Int) (c : Str) : Sp := fun vs H Q _ => ∃ (q dx f : Addr) (ls : TL), vs = .ref q :: rfT ls ∧ H q = some (.ins (B (Kd.top m c).cl) dx (qF f (oS (Kd.top m c).asked) (oV (Kd.top m c).quota))) ∧ TlAt H ls ∧ ls.length ≤ 100 ∧ (ls.flatMap (·.2)).length < 64 ∧ 1 ≤ m ∧
  ∀ t L H', Ex H H' → H' t = some (.tup (L.map V.int)) → IsTop m.toNat (ls.flatMap (·.2)) L → Q (.ref t) H'
theorem sc_joT : FnScope ["self", "answers", "values", "answer", "value"] ["self", "answers"] (defScope (Df.st .dTop_joined)) := ⟨rfl, rfl, rfl, by decide +kernel, rfl, by decide +kernel, by decide +kernel⟩
def fInt : V → Option V
  | .int i => some (.int i)
  | _ => none
theorem fm_int : ∀ ns : List Int, (ns.map V.int).filterMap fInt = ns.map V.int
  | [] => rfl
  | n :: ns => by rw [List.map_cons, List.filterMap_cons, show fInt (.int n) = some (.int n) from rfl, fm_int ns]
def spJoT0 (B : Cl → Addr) (m : Int) (c : Str) : Sp := fun vs H Q _ => ∃ (q dx f s : Addr) (ls : TL), vs = [.ref q, .ref s] ∧ H q = some (.ins (B (Kd.top m c).cl) dx (qF f (oS (Kd.top m c).asked) (oV (Kd.top m c).quota))) ∧ H s = some (.tup (rfT ls)) ∧ TlAt H ls ∧ (ls.flatMap (·.2)).length < 64 ∧ 1 ≤ m ∧
  ∀ t L H', Ex H H' → H' t = some (.tup (L.map V.int)) → IsTop m.toNat (ls.flatMap (·.2)) L → Q (.ref t) H'
theorem ok_joT0 (T : Txt P K mg A B Z) (m : Int) (c : Str) : FnR P w K mg base CX0 1 (A .dTop_joined) (fun vs H Q E => ∃ ws rest, vs = ws ++ rest ∧ ws.length = 1 ∧ rest.length ≤ sizeLine ∧ ∀ p, H p = Option.none → spJoT0 B m c (ws ++ [V.ref p]) (upd H p (.tup rest)) Q E) := by
  refine (T.d0 .dTop_joined).fnStar (k := 0) (ps := ["self"]) (pv := "answers") sc_joT (fun _ _ _ _ _ _ us rest h => by obtain ⟨a, rfl⟩ := len1 h; cases rest <;> rfl) fun cdv Ar outer s H vs Q E hr h => ?_
  obtain ⟨q0, dx, f, t, ls, rfl, hq, ht, hls, l64, h1, q⟩ := h
  have nd := sc_joT.nd
  refine ⟨_, pss_cons (ps_set (i := 2) nd rfl (.inl rfl) (pe_lst pa_nil))
    (pss_cons (ps_for PassesOwn.never rfl (pi_tup (pv 1)) (pg_name (i := 3) nd rfl (.inl rfl)) (pss_one (ps_expr (pe_bm PySem.F.plainAttrs_list PySem.F.slot_list_extend PySem.F.type_list_extend mt_extT (pv 2) (pa_cons (pv 3) pa_nil)))))
    (pss_one (ps_ret (pe_callTy call_tuple_of rfl (T.blt _ (by decide)) (by decide +kernel) (pa_cons (pe_slice sl_list (pe_revL (pe_callB cr_sorted rfl (T.blt _ (by decide)) (by decide +kernel) (pa_cons
      (pe_lc (own := [("value", 4)]) (g := gName 4) (tt := tYes) rfl nd (pi_list (pv 2)) (blkOk_by (N := ["self", "answers", "values", "answer", "value"]) (sc := defScope (Df.st .dTop_joined)) (by decide +kernel))
        (fun _ _ _ _ _ => pg_name (i := 4) nd rfl (.inl rfl)) (fun _ _ _ _ _ => pts_nil) (fun _ _ _ _ _ => pe_callTy call_int1 rfl (T.blt _ (by decide)) (by decide +kernel) (pa_cons (pv 4) pa_nil))) pa_nil))) po_none (po_some (pe_fld (pv 0) rfl))) pa_nil))))), ?_⟩
  refine ⟨Nat.zero_le _, fun l hl => ?_⟩
  have e0 : Ex H (upd H l (.lst [])) := Ex.new hl
  have ft : ∀ i, ((ls.take i).flatMap (·.2)).length ≤ (ls.flatMap (·.2)).length := fun i => by
    conv => rhs; rw [← List.take_append_drop i ls, List.flatMap_append, List.length_append]
    omega
  refine ⟨_, rfl, t, rfl, ⟨_, SqT.of (e0 _ _ ht)⟩, for_it walk_tup (fun i σ H' => (∃ z3 z4, σ = [some (.ref q0), some (.ref t), some (.ref l), z3, z4]) ∧ Ex H H' ∧ H' l = some (.lst (((ls.take i).flatMap (·.2)).map V.int))) ⟨⟨none, none, rfl⟩, e0, upd_same⟩ (fun i σ H' _ p => SqT.of (p.2.1 _ _ ht)) (fun i x σ H1 H2 hi p y => ?_) (fun σ H' p => ?_)⟩
  · obtain ⟨rfl, hx⟩ := y
    obtain ⟨⟨z3, z4, rfl⟩, e1, hl1⟩ := p
    unfold rfT at hx
    rw [List.getElem?_map] at hx
    obtain ⟨x, hxa, rfl⟩ := Option.map_eq_some_iff.mp hx
    have hxm := List.mem_of_getElem? hxa
    have eq : ((ls.take (i + 1)).flatMap (·.2)) = (ls.take i).flatMap (·.2) ++ x.2 := by
      rw [List.take_succ, hxa, List.flatMap_append]
      simp
    have fl := ft (i + 1)
    rw [eq, List.length_append] at fl
    refine ⟨_, rfl, .inl ⟨rfl, _, SqL.of hl1⟩, _, rfl, l, x.1, _, _, rfl, rfl, hl1, SqT.of (e1 _ _ (hls x hxm)), by rw [List.length_map, List.length_map, sizeLine_eq]; omega, ⟨_, _, rfl⟩, Ex.mut e1 hl, ?_⟩
    rw [upd_same, eq, List.map_append]
  obtain ⟨⟨z3, z4, rfl⟩, e1, hl1⟩ := p
  have ell : (rfT ls).length = ls.length := by unfold rfT; rw [List.length_map]
  rw [ell, List.take_length] at hl1
  generalize hns : ls.flatMap (·.2) = ns at hl1 l64 q
  refine ⟨_, rfl, l, rfl, ⟨_, SqL.of hl1⟩, fun D hD => lc_at walk_list (fun H' e => SqL.of (e _ _ hl1)) hD (by rw [List.length_map]; omega) fInt (fun x H5 hx e5 KK KN k1 k2 => ?_) fun H2 e2 h2 => ?_⟩
  · obtain ⟨n, _, rfl⟩ := List.mem_map.mp hx
    exact ⟨rfl, _, rfl, .inl ⟨n, rfl, k1 _ _ (Ex.refl _) rfl⟩⟩
  rw [fm_int] at h2
  refine ⟨D, ns, rfl, SqL.of h2, by omega, fun ys p pm srt hp => ?_⟩
  refine ⟨p, _, rfl, SqL.of upd_same, fun p2 hp2 => ?_⟩
  have e4 := ((e1.trans e2).trans (Ex.new (o := .lst (ys.map V.int)) hp)).trans (Ex.new (o := .lst (ys.map V.int).reverse) hp2)
  refine ⟨_, rfl, q0, _, dx, _, _, rfl, e4 _ _ hq, T.cls _, T.no _ _ (by decide), rfl, m, rfl, p2, _, rfl, SqL.of upd_same, fun p3 hp3 => ?_⟩
  rw [cut_to (by omega), ← List.map_reverse, ← List.map_take]
  rw [← List.map_reverse] at hp3 e4
  refine ⟨p3, _, rfl, .inl ⟨SqL.of upd_same, fun p4 hp4 => ?_⟩⟩
  exact q p4 (ys.reverse.take m.toNat) _ ((e4.trans (Ex.new hp3)).trans (Ex.new hp4)) upd_same ⟨ys, pm, srt, rfl⟩
theorem ok_joT (T : Txt P K mg A B Z) (m : Int) (c : Str) : FnR P w K mg base CX0 1 (A .dTop_joined) (spJoT B m c) := by
  refine (ok_joT0 T m c).imp fun vs H Q E h => ?_
  obtain ⟨q0, dx, f, ls, rfl, hq, hls, ln, l64, h1, q⟩ := h
  refine ⟨[.ref q0], rfT ls, rfl, rfl, by unfold rfT; rw [List.length_map, sizeLine_eq]; omega, fun t ht => ?_⟩
  have e : Ex H (upd H t (.tup (rfT ls))) := Ex.new ht
  exact ⟨q0, dx, f, t, ls, rfl, e _ _ hq, upd_same, hls.mono e, l64, h1, fun t2 L H' e2 => q t2 L H' (e.trans e2)⟩
/-! ### told -/
theorem sc_tTop : FnScope ["self", "pairs", "rows", "value", "times"] ["self", "pairs"] (defScope (Df.st .dTop_told)) := ⟨rfl, rfl, rfl, by decide +kernel, rfl, by decide +kernel, by decide +kernel⟩
theorem flat_cons (q : Nat) (p : Option Int × Int) (M : ML) : flat q (p :: M) = flat q [p] ++ flat q M := by
  unfold flat
  rw [List.flatMap_cons, List.flatMap_cons, List.flatMap_nil, List.append_nil]
theorem flat_v (q : Nat) (v t : Int) : flat q [(some v, t)] = List.replicate (min t.toNat q) v := by simp [flat]
theorem flat_n (q : Nat) (t : Int) : flat q [(none, t)] = [] := by simp [flat]
theorem flat_len (q : Nat) : ∀ M : ML, (flat q M).length ≤ q * M.length
  | [] => Nat.le_refl _
  | (o, t) :: M => by
    have ih := flat_len q M
    rw [flat_cons, List.length_append, List.length_cons, Nat.mul_succ]
    have : (flat q [(o, t)]).length ≤ q := by
      cases o with
      | none => rw [flat_n]; exact Nat.zero_le _
      | some v => rw [flat_v, List.length_replicate]; omega
    omega
theorem flat_take {q : Nat} {M : ML} {i : Nat} {p : Option Int × Int} (h : M[i]? = some p) : flat q (M.take (i + 1)) = flat q (M.take i) ++ flat q [p] := by
  unfold flat
  rw [List.take_succ, h, List.flatMap_append]
  rfl
theorem ok_tTop (T : Txt P K mg A B Z) (m : Int) (c : Str) : FnR P w K mg base CX0 2 (A .dTop_told) (spTold B (.top m c)) := by
  refine (T.d0 .dTop_told).fn sc_tTop (fun _ _ _ _ _ _ us h => by obtain ⟨a, b, rfl⟩ := len2 h; rfl) (fun vs H Q E h => by obtain ⟨_, _, _, _, _, _, rfl, _⟩ := h; rfl) fun cdv Ar outer s H vs Q E hr h => ?_
  obtain ⟨q0, l, dx, f, xs, M, rfl, hq, hl, hM, bd, ok, q⟩ := h
  obtain ⟨m1, m4⟩ := ok m c rfl
  have nd := sc_tTop.nd
  refine ⟨_, pss_cons (ps_setLc (i := 2) (own := [("value", 3), ("times", 4)]) (g := g2 K 3 4) (te := tOp (rRepV K) (tTup (tCons (tVar 3) tNil)) (tCB (fun xs H Q => ∃ i j, xs = [.int i, .int j] ∧ Q (.int (if j < i then j else i)) H) (tCons (tCB (fun xs H Q => (∃ i, xs = [.int i] ∧ Q (.int i) H) ∨ ∃ k, xs = [.bl k] ∧ Q (.int (if k then 1 else 0)) H) (tCons (tVar 4) tNil)) (tCons (tCB (fun xs H Q => (∃ i, xs = [.int i] ∧ Q (.int i) H) ∨ ∃ k, xs = [.bl k] ∧ Q (.int (if k then 1 else 0)) H) (tCons (tFld K (tVar 0) "quota") tNil)) tNil)))) rfl nd rfl rfl (sw_true rfl rfl rfl (by decide +kernel)) (pi_list (pv 1)) (blkOk_by (N := ["self", "pairs", "rows", "value", "times"]) (sc := defScope (Df.st .dTop_told)) (by decide +kernel))
      (fun _ _ _ _ _ => pg_tup rfl (pgs_cons (pg_name (i := 3) nd rfl (.inl rfl)) (pgs_cons (pg_name (i := 4) nd rfl (.inl rfl)) pgs_nil))) (fun _ _ _ _ _ => pts_one (pt_cmp (pc_notN (pv 3))))
      (fun _ _ _ _ _ => pe_op op_repV (pe_tup (pa_cons (pv 3) pa_nil)) (pe_callB (call_min2 rfl) rfl (T.blt _ (by decide)) (by decide +kernel) (pa_cons (pe_callTy call_int1 rfl (T.blt _ (by decide)) (by decide +kernel) (pa_cons (pv 4) pa_nil)) (pa_cons (pe_callTy call_int1 rfl (T.blt _ (by decide)) (by decide +kernel) (pa_cons (pe_fld (pv 0) rfl) pa_nil)) pa_nil)))))
    (pss_one (ps_ret (pe_mas (pv 0) (joined_any T (c := .cTop) rfl (ok_joT T m c) ⟨rfl, rfl, rfl, rfl, rfl⟩) hr (pv 2)))), ?_⟩
  have xl := xs_len hM bd
  have hlen : M.length = xs.length := by rw [← hM.1, List.length_map]
  refine ⟨_, rfl, l, rfl, ⟨_, SqL.of hl⟩, fun D hD => lc_it (walk_list (xs := rfX xs)) (fun i H' => Ex H H' ∧ ∃ ls : TL, H' D = some (.lst (rfT ls)) ∧ TlAt H' ls ∧ ls.flatMap (·.2) = flat m.toNat (M.take i) ∧ ls.length ≤ i) ⟨Ex.new hD, [], upd_same, (fun x hx => nomatch hx), rfl, Nat.le_refl _⟩ (fun i H' _ p => SqL.of (p.1 _ _ hl)) (fun i x H1 H2 hi p y => ?_) (fun H1 p1 => ?_)⟩
  · obtain ⟨rfl, hx⟩ := y
    obtain ⟨e1, ls, hD1, hls, hfl, hll⟩ := p
    unfold rfX at hx
    rw [List.getElem?_map] at hx
    obtain ⟨⟨a, o, t⟩, hxa, rfl⟩ := Option.map_eq_some_iff.mp hx
    have hxm := List.mem_of_getElem? hxa
    have hp : M[i]? = some (o, t) := by rw [← hM.1, List.getElem?_map, hxa]; rfl
    have hpm := List.mem_of_getElem? hp
    have ha := e1 _ _ (hM.2 _ hxm)
    have tpos : 0 < t := bd.pos _ hpm
    refine ⟨a, _, rfl, SqT.of ha, rfl, _, _, rfl, _, _, rfl, rfl, rfl, ?_⟩
    cases o with
    | none =>
      refine ⟨_, rfl, false, rfl, iteF ⟨e1, ls, hD1, hls, ?_, by omega⟩⟩
      rw [flat_take hp, flat_n, List.append_nil]
      exact hfl
    | some v =>
      refine ⟨_, rfl, true, rfl, iteT ⟨_, rfl, one_le, fun p3 hp3 => ?_⟩⟩
      have n3 : Ex H2 (upd H2 p3 (.tup [oV (some v)])) := Ex.new hp3
      refine ⟨_, rfl, .inl ⟨t, rfl, _, rfl, q0, _, dx, _, _, rfl, n3 _ _ (e1 _ _ hq), T.cls _, T.no _ _ (by decide), rfl, .inl ⟨m, rfl, t, m, rfl, ?_⟩⟩⟩
      refine ⟨p3, _, _, rfl, rfl, upd_same, by split <;> omega, by split <;> omega, fun p4 H4 e4 h4 => ?_⟩
      have k4 : (if m < t then m else t).toNat = min t.toNat m.toNat := by split <;> omega
      rw [k4] at h4
      have eD : H4 D = some (.lst (rfT ls)) := e4 _ _ (n3 _ _ hD1)
      refine ⟨_, eD, by unfold rfT; rw [List.length_map, sizeLine_eq]; unfold rfX at hi; rw [List.length_map] at hi; omega, Ex.mut ((e1.trans n3).trans e4) hD, ls ++ [(p4, List.replicate (min t.toNat m.toNat) v)], ?_, fun x hx => ?_, ?_, by rw [List.length_append]; show ls.length + 1 ≤ i + 1; omega⟩
      · rw [upd_same]
        unfold rfT
        rw [List.map_append]; rfl
      · have nD : ∀ {z : Addr} {zs}, H4 z = some (.tup zs) → upd H4 D (.lst (rfT ls ++ [V.ref p4])) z = some (.tup zs) := fun h => by
          rw [upd_ne (fun z => by rw [z, eD] at h; cases h)]; exact h
        rcases List.mem_append.mp hx with hx | hx
        · exact nD (e4 _ _ (n3 _ _ (hls x hx)))
        · rw [List.mem_singleton.mp hx, List.map_replicate]
          exact nD h4
      · rw [flat_take hp, flat_v, List.flatMap_append, hfl]
        simp
  obtain ⟨e1, ls, hD1, hls, hfl, hll⟩ := p1
  have eX : (rfX xs).length = M.length := by unfold rfX; rw [List.length_map, hlen]
  rw [eX, List.take_length] at hfl
  rw [eX] at hll
  have fl : (flat m.toNat M).length < 64 := by
    have h1 := flat_len m.toNat M
    have h2 : m.toNat * M.length ≤ 4 * 15 := Nat.mul_le_mul (by omega) bd.num
    omega
  have hn := bd.num
  refine ⟨_, rfl, q0, _, dx, _, rfl, e1 _ _ hq, rfl, rfl, fun q1 g hq1 => ⟨_, rfl, D, _, rfl, .inr (SqL.of ((Ex.new hq1) _ _ hD1)), upd_same, q0, dx, f, ls, rfl, (Ex.new hq1) _ _ (e1 _ _ hq), hls.mono (Ex.new hq1), by omega, by rw [hfl]; exact fl, m1, fun t L H' e ht hT => ?_⟩⟩
  rw [hfl] at hT
  exact q _ _ ((e1.trans (Ex.new hq1)).trans e) ⟨t, L, rfl, ht, hT⟩
end
end Hs
set_option Elab.async false
set_option linter.all false
set_option maxRecDepth 100000
set_option maxHeartbeats 4000000
/-! on. -/
namespace Hs
open PySem PySem.Spec PyProof.Rows L2
section
variable {P : Program} {w : World} {K : PySem.W.Frag} {mg : Str → Option Value} {base : Heap} {A : Df → Addr} {B Z : Cl → Addr}
def GoodQ (B : Cl → Addr) (C : Addr) : Prop := ∃ k : Kd, C = B k.cl
def spTolds (B : Cl → Addr) : Addr → Sp := fun C vs H Q E => ∃ k : Kd, B k.cl = C ∧ spTold B k vs H Q E
theorem fnr_ex {ι : Type} {sps : ι → Sp} {k : Nat} {f : Addr} (h : ∀ i, FnR P w K mg base CX0 k f (sps i)) : FnR P w K mg base CX0 k f (fun vs H Q E => ∃ i, sps i vs H Q E) := by
  intro A outer s H us vs Q E hr e0 r ⟨i, q⟩
  exact h i A outer s H us vs Q E hr e0 r q
/-- the def of told by the kind -/
def Kd.tdf : Kd → Df
  | .some => .dSome_told
  | .many => .dQuestion_told
  | .atLeast _ => .dAtLeast_told
  | .greatest _ => .dGreatest_told
  | .least _ => .dLeast_told
  | .total _ => .dTotal_told
  | .top _ _ => .dTop_told
theorem ok_told (T : Txt P K mg A B Z) (k : Kd) : FnR P w K mg base CX0 2 (A k.tdf) (spTold B k) := by
  cases k with
  | some => exact (ok_tS T).mono (by decide)
  | many => exact (ok_tQ T).mono (by decide)
  | atLeast m => exact (ok_tA T m).mono (by decide)
  | greatest c => exact ok_tGreatest T c
  | least c => exact ok_tLeast T c
  | total c => exact (ok_tT T c).mono (by decide)
  | top m c => exact ok_tTop T m c
theorem tdf_cl {k k' : Kd} (h : k'.cl = k.cl) : k'.tdf = k.tdf := by
  cases k <;> cases k' <;> first | rfl | exact nomatch h
theorem told_look (k : Kd) : look k.cl .mtold = some k.tdf := by cases k <;> rfl
theorem told_any (T : Txt P K mg A B Z) : MAny P w K mg base "told" 2 (spTolds B) (GoodQ B) := by
  rintro C ⟨k, rfl⟩
  refine ⟨T.cls _, A k.tdf, ⟨T.fnd k.cl .mtold _ (told_look k), T.isF _, (T.dk _).kp⟩, ?_⟩
  refine (fnr_ex (ι := {k' : Kd // k'.cl = k.cl}) (sps := fun k' => spTold B k'.1) fun k' => ?_).imp fun vs H Q E h => ?_
  · obtain ⟨k', hk⟩ := k'
    have e : k'.tdf = k.tdf := tdf_cl hk
    have := ok_told (P := P) (w := w) (base := base) T k'
    rw [e] at this
    exact this
  · obtain ⟨k', hk, h⟩ := h
    exact ⟨⟨k', T.inj _ _ hk⟩, h⟩
theorem mat_any (T : Txt P K mg A B Z) (n : Nat) : MAny P w K mg base "matches" (n + 3) (fun _ => spMat P w B n) (GoodQ B) := by
  rintro C ⟨k, rfl⟩
  exact ⟨T.cls _, A .dQuestion_matches, ⟨T.fnd k.cl .mmatches _ (by cases k <;> rfl), T.isF _, (T.dk _).kp⟩, ok_mat T n⟩
theorem col_any (T : Txt P K mg A B Z) {X : Cx} (hX : X.prog = P ∧ X.w = w ∧ X.K = K ∧ X.mg = mg ∧ X.base = base) : PropAny X "columns" 3 (fun _ => spQcol B) (GoodQ B) := by
  obtain ⟨rfl, rfl, rfl, rfl, rfl⟩ := hX
  obtain ⟨p, h⟩ := T.propQ
  rintro C ⟨k, rfl⟩
  exact ⟨T.cls _, p, A .dQuestion_columns, h k.cl (by cases k <;> simp [Kd.cl]), ok_Qc T⟩
/-! ### bounds of the matches -/
theorem le_mu {T : Tab} (hp : AllPos T) {p : Rw × Int} (h : p ∈ T) : p.2 ≤ mu T fun _ => 1 := by
  induction T with
  | nil => cases h
  | cons q T ih =>
    rw [mu_cons]
    have h0 : 0 ≤ mu T fun _ => 1 := mu_nonneg hp.tail fun _ _ => by decide
    have hq := hp q (List.mem_cons_self ..)
    rcases List.mem_cons.mp h with rfl | h
    · omega
    · have := ih hp.tail h
      omega
theorem at_mem : ∀ {N : List Str} {r : Rw} {c : Str} {v : Int}, at' N r c = some v → some v ∈ r
  | [], r, c, v, h => by cases r <;> cases h
  | n :: N, [], c, v, h => by cases h
  | n :: N, o :: r, c, v, h => by
    unfold at' at h
    rw [List.zip_cons_cons, List.lookup_cons] at h
    by_cases e : c == n
    · rw [e] at h
      rw [show o = some v from h]
      exact List.mem_cons_self ..
    · rw [Bool.not_eq_true] at e
      rw [e] at h
      exact List.mem_cons_of_mem _ (at_mem (N := N) (r := r) (c := c) h)
theorem mbd_of {N : List Str} {F : Flt} {asked : Option Str} {ls : LL} {n : Nat} (h : ∀ x, x ∈ ls → TabOk n x.2) (hn : (tabs ls).length ≤ 15) : MBd (ms F N asked (tabs ls)) := by
  have hpos : AllPos (tabs ls) := fun p hp => by
    obtain ⟨x, hx, hp⟩ := List.mem_flatMap.mp hp
    exact (h x hx).pos p hp
  refine ⟨ms_pos hpos, Nat.le_trans (ms_len _) hn, fun p hp v hv => ?_, fun p hp => ?_⟩
  · obtain ⟨r, hr, hs⟩ := mem_ms.mp hp
    obtain ⟨x, hx, hr⟩ := List.mem_flatMap.mp hr
    have h2 := (sel_some.mp hs).2
    rw [hv] at h2
    cases asked with
    | none => cases h2
    | some c => exact (h x hx).big _ hr v (at_mem h2)
  · obtain ⟨r, hr, hs⟩ := mem_ms.mp hp
    obtain ⟨x, hx, hr⟩ := List.mem_flatMap.mp hr
    have h1 := le_mu (h x hx).pos hr
    have h2 := (h x hx).tot
    have h3 := (h x hx).pos _ hr
    omega
/-! ### on -/
def spOn (P : Program) (w : World) (B : Cl → Addr) (n : Nat) : Sp := fun vs H Q _ => ∃ (q a : Addr) (N : List Str) (S : List Int) (k : Kd) (F : Flt) (ls : LL), vs = .ref q :: .ref a :: ls.map (fun x => .ref x.1) ∧ N ∈ Ns ∧ QAt B N S H k F q ∧ (∀ c, k.asked = some c → c ∈ N) ∧ KdOk k ∧ F.ht ≤ n ∧
  H a = some (.tup (N.map V.str)) ∧ (∀ x, x ∈ ls → LotsAt P w B N.length H x.2 x.1) ∧ ls.length ≤ 3 ∧ (tabs ls).length ≤ 15 ∧ ∀ v H', Ex H H' → Ans k (ms F N k.asked (tabs ls)) v H' → Q v H'
def spOn0 (P : Program) (w : World) (B : Cl → Addr) (n : Nat) : Sp := fun vs H Q _ => ∃ (q a b : Addr) (N : List Str) (S : List Int) (k : Kd) (F : Flt) (ls : LL), vs = [.ref q, .ref a, .ref b] ∧ H b = some (.tup (ls.map fun x => .ref x.1)) ∧ N ∈ Ns ∧ QAt B N S H k F q ∧ (∀ c, k.asked = some c → c ∈ N) ∧ KdOk k ∧ F.ht ≤ n ∧
  H a = some (.tup (N.map V.str)) ∧ (∀ x, x ∈ ls → LotsAt P w B N.length H x.2 x.1) ∧ ls.length ≤ 3 ∧ (tabs ls).length ≤ 15 ∧ ∀ v H', Ex H H' → Ans k (ms F N k.asked (tabs ls)) v H' → Q v H'
theorem sc_on : FnScope ["self", "names", "blocks", "at", "lots"] ["self", "names", "blocks"] (defScope (Df.st .dQuestion_on)) := ⟨rfl, rfl, rfl, by decide +kernel, rfl, by decide +kernel, by decide +kernel⟩
theorem ok_on0 (T : Txt P K mg A B Z) (n : Nat) : FnR P w K mg base CX0 (n + 5) (A .dQuestion_on) (fun vs H Q E => ∃ ws rest, vs = ws ++ rest ∧ ws.length = 2 ∧ rest.length ≤ sizeLine ∧ ∀ p, H p = Option.none → spOn0 P w B n (ws ++ [V.ref p]) (upd H p (.tup rest)) Q E) := by
  refine (T.d0 .dQuestion_on).fnStar (ps := ["self", "names"]) (pv := "blocks") sc_on (fun _ _ _ _ _ _ us rest h => by obtain ⟨a, b, rfl⟩ := len2 h; cases rest <;> rfl) fun cdv Ar outer s H vs Q E hr h => ?_
  obtain ⟨q0, a, b, N, S, k, F, ls, rfl, hb, hN, hQ, hk, ok, hn, ha, hL, l3, lt, q⟩ := h
  have nd := sc_on.nd
  have hr1 : Room 1 _ := hr.mono (j := 1) (by omega)
  have hr2 : Room 2 _ := hr.mono (j := 2) (by omega)
  have hr4 : Room (3 + 1) _ := hr.mono (j := 4) (by omega)
  have hrn : Room (n + 3) _ := hr.mono (j := n + 3) (by omega)
  refine ⟨_, pss_cons (ps_if (pt_not (pt_val (pe_fn (ok_are_names T) hr2 rfl (T.gD .dare_names rfl) (T.dk .dare_names).kp (pa_cons (pv 1) pa_nil)))) pss_never pss_nil)
    (pss_cons (ps_expr (pe_fn (ok_need_columns T) hr1 rfl (T.gD .dneed_columns rfl) (T.dk .dneed_columns).kp (pa_cons (pv 1) (pa_cons (pe_pa (pv 0) (col_any T ⟨rfl, rfl, rfl, rfl, rfl⟩) hr4) pa_nil))))
    (pss_cons (ps_for PassesOwn.never rfl (pi_enumT (by rfl) (T.blt _ (by decide)) (pa_cons (pv 2) pa_nil)) (pg_tup rfl (pgs_cons (pg_name (i := 3) nd rfl (.inl rfl)) (pgs_cons (pg_name (i := 4) nd rfl (.inl rfl)) pgs_nil)))
      (pss_one (ps_if (pt_not (pt_val (pe_fn (ok_are_rows T) hr2 rfl (T.gD .dare_rows rfl) (T.dk .dare_rows).kp (pa_cons (pv 4) (pa_cons (pe_callB call_len_seq rfl (T.blt _ (by decide)) PySem.boot_len (pa_cons (pv 1) pa_nil)) pa_nil))))) pss_never pss_nil)))
    (pss_one (ps_ret (pe_ma (pv 0) (told_any T) hr2 (pa_cons (pe_ma (pv 0) (mat_any T n) hrn (pa_cons (pv 1) (pa_cons (pv 2) pa_nil))) pa_nil)))))), ?_⟩
  obtain ⟨dx, f, hq, hF⟩ := hQ
  have hQ : QAt B N S H k F q0 := ⟨dx, f, hq, hF⟩
  refine ⟨_, rfl, a, N, rfl, hN, ha, fun H1 e1 => ⟨true, rfl, iteF ?_⟩⟩
  refine ⟨_, rfl, _, rfl, q0, _, dx, _, rfl, e1 _ _ hq, ⟨k, rfl⟩, q0, N, S, k, F, rfl, hN, hQ.mono e1, hk, fun t cs H2 e2 ht hcs => ?_⟩
  have E2 := e1.trans e2
  refine ⟨a, t, N, cs, rfl, SqT.of (E2 _ _ ha), SqT.of ht, hcs, fun H3 e3 => ?_⟩
  have E3 := E2.trans e3
  refine ⟨_, rfl, b, _, rfl, SqT.of (E3 _ _ hb), for_it walk_enumT (fun i σ H' => (∃ z3 z4, σ = [some (.ref q0), some (.ref a), some (.ref b), z3, z4]) ∧ Ex H H') ⟨⟨none, none, rfl⟩, E3⟩ (fun i σ H' _ p => SqT.of (p.2 _ _ hb)) (fun i x σ H4 H5 hi p y => ?_) (fun σ H4 p => ?_)⟩
  · obtain ⟨T2, z, hz, rfl, hT2, rfl⟩ := y
    obtain ⟨⟨z3, z4, rfl⟩, e4⟩ := p
    rw [List.getElem?_map] at hz
    obtain ⟨⟨pL, Tb⟩, hxl, rfl⟩ := Option.map_eq_some_iff.mp hz
    have hl := hL _ (List.mem_of_getElem? hxl)
    have e5 : Ex H (upd H4 T2 (.tup [.int (i : Nat), .ref pL])) := e4.trans (Ex.new hT2)
    refine ⟨T2, _, rfl, SqT.of upd_same, rfl, _, _, rfl, _, _, rfl, rfl, ?_⟩
    refine ⟨_, rfl, _, rfl, a, _, rfl, .inr (SqT.of (e5 _ _ ha)), pL, N.length, Tb, by rw [List.length_map], hl.mono e5, fun H6 e6 => ⟨true, rfl, iteF ⟨⟨_, _, rfl⟩, e5.trans e6⟩⟩⟩
  obtain ⟨⟨z3, z4, rfl⟩, e4⟩ := p
  refine ⟨_, rfl, q0, _, dx, _, rfl, e4 _ _ hq, ⟨k, rfl⟩, rfl, _, rfl, q0, _, dx, _, rfl, e4 _ _ hq, ⟨k, rfl⟩, rfl, _, rfl, _, rfl, ?_⟩
  refine ⟨q0, a, b, N, S, k, F, ls, rfl, hN, hQ.mono e4, hk, hn, e4 _ _ ha, e4 _ _ hb, fun x hx => (hL x hx).mono e4, l3, fun l xs H5 e5 hl hM => ?_⟩
  have E5 := e4.trans e5
  refine ⟨k, rfl, q0, l, dx, f, xs, _, rfl, E5 _ _ hq, hl, hM, mbd_of (n := N.length) (fun x hx => ?_) lt, ok, fun v H' e hA => q v H' (E5.trans e) hA⟩
  obtain ⟨_, _, _, _, _, _, _, tok, _⟩ := hL x hx
  exact tok
theorem ok_on (T : Txt P K mg A B Z) (n : Nat) : FnR P w K mg base CX0 (n + 5) (A .dQuestion_on) (spOn P w B n) := by
  refine (ok_on0 T n).imp fun vs H Q E h => ?_
  obtain ⟨q0, a, N, S, k, F, ls, rfl, hN, hQ, hk, ok, hn, ha, hL, l3, lt, q⟩ := h
  refine ⟨[.ref q0, .ref a], ls.map fun x => .ref x.1, rfl, rfl, by rw [List.length_map, sizeLine_eq]; omega, fun t ht => ?_⟩
  have e : Ex H (upd H t (.tup (ls.map fun x => V.ref x.1))) := Ex.new ht
  exact ⟨q0, a, t, N, S, k, F, ls, rfl, upd_same, hN, hQ.mono e, hk, ok, hn, e _ _ ha, fun x hx => (hL x hx).mono e, l3, lt, fun v H' e' => q v H' (e.trans e')⟩
theorem on_any (T : Txt P K mg A B Z) (n : Nat) : MAny P w K mg base "on" (n + 5) (fun _ => spOn P w B n) (GoodQ B) := by
  rintro C ⟨k, rfl⟩
  exact ⟨T.cls _, A .dQuestion_on, ⟨T.fnd k.cl .mon _ (by cases k <;> rfl), T.isF _, (T.dk _).kp⟩, ok_on T n⟩
end
end Hs
set_option Elab.async false
set_option linter.all false
set_option maxRecDepth 100000
set_option maxHeartbeats 4000000
/-! The law's pen. -/
namespace Hs
open PySem PySem.Spec PyProof.Rows L2
section
variable {P : Program} {w : World} {K : PySem.W.Frag} {mg : Str → Option Value} {base : Heap} {A : Df → Addr} {B Z : Cl → Addr}
/-- the pen at p has been at fewer than b cells -/
def PenAt (H : Hp) (l : Addr) (b : Int) (p : Addr) : Prop := ∃ (cs : List Int) (at_ gr : Int), H p = some (.lst [.ref l, .int at_, .int gr]) ∧ H l = some (.lst (cs.map V.int)) ∧ cs.length ≤ 63 ∧ 0 ≤ at_ ∧ at_ ≤ b ∧ 0 ≤ gr
/-- what a draw may change: the pen alone -/
def ExP (p : Addr) (H H' : Hp) : Prop := ∀ a o, a ≠ p → H a = some o → H' a = some o
theorem pss_weak {X : Cx} {sts : List Stmt} {t t' : TS} (h : PSs X sts t) (w : ∀ D σ H, t' D σ H → t D σ H) : PSs X sts t' := ⟨fun pins s σ H D I q => h.run pins s σ H D I (w D σ H q)⟩
/-- behind the choice of the cell -/
def tTl (p l : Addr) (cs : List Int) (m at_ gr b : Int) : TS := fun D σ H => ∃ (v : Int) (z2 z5 z6 : Option V), σ = [some (.ref p), some (.int m), z2, some (.int at_), some (.int v), z5, z6] ∧ H p = some (.lst [.ref l, .int (at_ + 1), .int gr]) ∧ H l = some (.lst (cs.map V.int)) ∧
  ∀ d H', ExB p H H' → PenAt H' l (b + 1) p → 0 ≤ d → d < m → D.rt (.int d) H'
theorem dp_ints {K : PySem.W.Frag} {H : Hp} : ∀ ns : List Int, DpAll K H (ns.map V.int) (ns.map PyData.int)
  | [] => .nil
  | n :: ns => .cons (.int n) (dp_ints ns)
theorem eqv_ints_nil (cs : List Int) : PyData.eqv (.list (cs.map PyData.int)) (.list []) = decide (cs = []) := by
  cases cs with
  | nil => simp only [List.map_nil, PyData.eqv, PyData.eqvAll, decide_true]
  | cons y ys => simp [PyData.eqv, PyData.eqvAll]
theorem atI_mod {cs : List Int} (a : Int) (h : 0 < cs.length) : ∃ v, atI (cs.map V.int) (a % ((cs.map V.int).length : Nat)) = some (.int v) := by
  rw [List.length_map]
  have h1 := Int.emod_nonneg a (b := (cs.length : Int)) (by omega)
  have h2 := Int.emod_lt_of_pos a (b := (cs.length : Int)) (by omega)
  unfold atI ixN
  rw [if_pos h1, List.length_map, if_pos (by omega)]
  have h3 : (a % (cs.length : Int)).toNat < cs.length := by omega
  exact ⟨cs[(a % (cs.length : Int)).toNat], by simp [h3]⟩
def spDraw : Sp := fun vs H Q _ => ∃ (p l : Addr) (m b : Int), vs = [.ref p, .int m] ∧ PenAt H l b p ∧ 0 < m ∧ m < 1000 ∧ b < 900000 ∧ ∀ d H', ExB p H H' → PenAt H' l (b + 1) p → 0 ≤ d → d < m → Q (.int d) H'
theorem sc_draw : FnScope ["_law_pen_here", "_law_many", "_law_digit", "_law_at", "_law_cell", "_law_great", "_law_mixed"] ["_law_pen_here", "_law_many"] (defScope (Df.st .dlaw_draw)) := ⟨rfl, rfl, rfl, by decide +kernel, rfl, by decide +kernel, by decide +kernel⟩
theorem ok_draw (T : Txt P K mg A B Z) : FnR P w K mg base CX0 1 (A .dlaw_draw) spDraw := by
  refine (T.d0 .dlaw_draw).fn sc_draw (fun _ _ _ _ _ _ us h => by obtain ⟨a, b, rfl⟩ := len2 h; rfl) (fun vs H Q E h => by obtain ⟨_, _, _, _, rfl, _⟩ := h; rfl) fun cdv Ar outer s H vs Q E hr h => ?_
  obtain ⟨p, l, m, b, rfl, ⟨cs, at_, gr, hp, hl, cl, a0, ab, g0⟩, m0, m1, hb, q⟩ := h
  have nd := sc_draw.nd
  refine ⟨_, pss_cons (ps_if (pt_cmpR op_gt (pe_ix ix_list (pv 0) pe_int (fun _ _ => rfl)) pe_int (nomark _))
      (pss_cons (ps_set (i := 2) nd rfl (.inl rfl) (pe_op op_mod (pe_callTy call_int1 rfl (T.blt _ (by decide)) (by decide +kernel) (pa_cons (pe_ix ix_list (pv 0) pe_int (fun _ _ => rfl)) pa_nil)) (pv 1)))
      (pss_cons (ps_asg (pe_op op_fdiv (pe_callTy call_int1 rfl (T.blt _ (by decide)) (by decide +kernel) (pa_cons (pe_ix ix_list (pv 0) pe_int (fun _ _ => rfl)) pa_nil)) (pv 1)) (pg_sub (pv 0) pe_int set_list))
      (pss_one (ps_ret (pv 2))))) pss_nil)
    (pss_cons (ps_set (i := 3) nd rfl (.inl rfl) (pe_ix ix_list (pv 0) pe_int (fun _ _ => rfl)))
    (pss_cons (ps_asg (pe_op op_add (pv 3) pe_int) (pg_sub (pv 0) pe_int set_list))
    (pss_cons (ps_set (i := 4) nd rfl (.inl rfl) (pe_op op_add (pe_op op_mul pe_int (pv 3)) pe_int))
    (pss_cons (ps_if (pt_cmpR (op_neD hr.units) (pe_ix ix_list (pv 0) pe_int (fun _ _ => rfl)) (pe_lst pa_nil) (nomark _))
      (pss_one (ps_set (i := 4) nd rfl (.inl rfl) (pe_ix ix_list (pe_ix ix_list (pv 0) pe_int (fun _ _ => rfl)) (pe_op op_mod (pe_callTy call_int1 rfl (T.blt _ (by decide)) (by decide +kernel) (pa_cons (pv 3) pa_nil)) (pe_callB call_len_seq rfl (T.blt _ (by decide)) PySem.boot_len (pa_cons (pe_ix ix_list (pv 0) pe_int (fun _ _ => rfl)) pa_nil))) (fun _ _ => rfl)))) pss_nil)
    (pss_weak (t' := tTl p l cs m at_ gr b) (pss_cons (ps_if (PW.pt (pw_and (pt_cmpR op_lt (pv 3) (pe_callB call_len_seq rfl (T.blt _ (by decide)) PySem.boot_len (pa_cons (pe_ix ix_list (pv 0) pe_int (fun _ _ => rfl)) pa_nil)) (nomark _))
        (pw_and1 (pt_cmpR op_ge (pe_callB call_abs rfl (T.blt _ (by decide)) (by decide +kernel) (pa_cons (pv 4) pa_nil)) (pe_op op_pow pe_int pe_int) (nomark _)))))
      (pss_cons (ps_set (i := 5) nd rfl (.inl rfl) (pe_op op_add (pe_op op_mul pe_int (pe_op op_sub (pe_callB call_abs rfl (T.blt _ (by decide)) (by decide +kernel) (pa_cons (pv 4) pa_nil)) (pe_op op_pow pe_int pe_int))) (pe_callTy call_int1 rfl (T.blt _ (by decide)) (by decide +kernel) (pa_cons (pe_cmpR op_lt (pv 4) pe_int (nomark _)) pa_nil))))
      (pss_cons (ps_asg (pe_op op_fdiv (pe_callTy call_int1 rfl (T.blt _ (by decide)) (by decide +kernel) (pa_cons (pv 5) pa_nil)) (pv 1)) (pg_sub (pv 0) pe_int set_list))
      (pss_one (ps_ret (pe_op op_mod (pe_callTy call_int1 rfl (T.blt _ (by decide)) (by decide +kernel) (pa_cons (pv 5) pa_nil)) (pv 1)))))) pss_nil)
    (pss_cons (ps_set (i := 6) nd rfl (.inl rfl) (pe_op op_mod (pe_callTy call_int1 rfl (T.blt _ (by decide)) (by decide +kernel) (pa_cons (pe_op op_pow (pe_op op_add (pe_op op_add (pe_op op_mod (pe_callTy call_int1 rfl (T.blt _ (by decide)) (by decide +kernel) (pa_cons (pv 4) pa_nil)) pe_int) (pe_op op_mul pe_int (pv 3))) pe_int) pe_int) pa_nil)) pe_int))
    (pss_cons (ps_set (i := 6) nd rfl (.inl rfl) (pe_op op_mod (pe_callTy call_int1 rfl (T.blt _ (by decide)) (by decide +kernel) (pa_cons (pe_op op_pow (pe_op op_add (pe_op op_add (pe_op op_mul (pv 6) (pe_op op_add (pe_op op_mul pe_int (pv 3)) pe_int)) (pe_op op_mul (pe_op op_mul pe_int (pv 3)) (pv 3))) pe_int) pe_int) pa_nil)) pe_int))
    (pss_one (ps_ret (pe_op op_mod (pe_callTy call_int1 rfl (T.blt _ (by decide)) (by decide +kernel) (pa_cons (pe_op op_fdiv (pv 6) pe_int) pa_nil)) (pv 1))))))) ?tl))))), ?rd⟩
  case tl =>
    rintro D σ H2 ⟨v, z2, z5, z6, rfl, hp2, hl2, fin⟩
    have lp2 : l ≠ p := fun z => by
      rw [z, hp2] at hl2
      injection hl2 with hl2
      injection hl2 with hl2
      cases cs with
      | nil => cases hl2
      | cons c cs => rw [List.map_cons] at hl2; injection hl2 with h1 _; cases h1
    refine ⟨_, rfl, _, rfl, p, _, 0, .ref l, rfl, rfl, SqL.of hp2, rfl, l, _, rfl, .inl (SqL.of hl2), at_, _, rfl, rfl, decide (at_ < ((cs.map V.int).length : Nat)), rfl, ?_⟩
    have m2 : m < 1073741824 := by omega
    have m3 : 0 ≤ m := by omega
    have m4 : m ≠ 0 := by omega
    have at1 : 0 ≤ at_ + 1 := by omega
    have at2 : at_ + 1 ≤ b + 1 := by omega
    suffices mixed : _ by
      by_cases h1 : at_ < ((cs.map V.int).length : Nat)
      · rw [decide_eq_true h1]
        refine iteT ⟨_, rfl, v, rfl, 10, 18, rfl, rfl, ⟨by decide, by decide, by decide⟩, _, _, rfl, rfl, decide ((10 : Int) ^ (18 : Int).toNat ≤ if v < 0 then -v else v), rfl, ?_⟩
        by_cases h2 : (10 : Int) ^ (18 : Int).toNat ≤ if v < 0 then -v else v
        · rw [decide_eq_true h2]
          refine iteT ⟨_, rfl, v, rfl, 10, 18, rfl, rfl, ⟨by decide, by decide, by decide⟩, _, _, rfl, rfl, 2, _, rfl, rfl, .inl ⟨by decide, by decide⟩, _, rfl, v, 0, rfl, rfl, .inr ⟨_, rfl, _, _, rfl, rfl, ?_⟩⟩
          have gt0 : 0 ≤ 2 * ((if v < 0 then -v else v) - (10 : Int) ^ (18 : Int).toNat) + (if decide (v < 0) = true then (1 : Int) else 0) := by
            clear mixed
            generalize (10 : Int) ^ (18 : Int).toNat = y at h2 ⊢
            generalize (if v < 0 then -v else v) = z at h2 ⊢
            split <;> omega
          refine ⟨_, rfl, .inl ⟨_, rfl, _, rfl, _, m, rfl, rfl, ⟨m0, m2⟩, ?_⟩⟩
          refine ⟨_, rfl, p, _, 2, 2, rfl, rfl, hp2, rfl, ?_⟩
          refine ⟨_, rfl, .inl ⟨_, rfl, _, rfl, _, m, rfl, rfl, m0, ?_⟩⟩
          exact fin _ _ (ExB.refl p H2).put ⟨cs, at_ + 1, _, upd_same, by rw [upd_ne lp2]; exact hl2, cl, at1, at2, Int.ediv_nonneg gt0 m3⟩ (Int.emod_nonneg _ m4) (Int.emod_lt_of_pos _ m0)
        · rw [decide_eq_false h2]
          exact iteF mixed
      · rw [decide_eq_false h1]
        exact iteF (iteF mixed)
    have w1 := Int.emod_nonneg v (b := 2147483543) (by decide)
    have w2 := Int.emod_lt_of_pos v (b := 2147483543) (by decide)
    refine ⟨_, rfl, .inl ⟨v, rfl, v, 2147483543, rfl, rfl, (show (0 : Int) < 2147483543 by decide), _, rfl, 79181, at_, rfl, rfl, .inl ⟨by decide, by decide⟩, _, _, rfl, rfl, _, 920, rfl, rfl, _, 5, rfl, rfl, ⟨by decide, by decide, by omega⟩, .inl ⟨_, rfl, _, 2147483423, rfl, rfl, (show (0 : Int) < 2147483423 by decide), ?_⟩⟩⟩
    have x1 := Int.emod_nonneg ((v % 2147483543 + 79181 * at_ + 920) ^ (5 : Int).toNat) (b := 2147483423) (by decide)
    have x2 := Int.emod_lt_of_pos ((v % 2147483543 + 79181 * at_ + 920) ^ (5 : Int).toNat) (b := 2147483423) (by decide)
    have bnd : ∀ x : Int, 0 ≤ x → x < 2147483423 → CMul x (2 * at_ + 181) ∧ (x * (2 * at_ + 181) + 71149 * at_ * at_ + 100).natAbs < 2 ^ 64 := fun x x1 x2 => by
      have y1 : 0 ≤ x * (2 * at_ + 181) := Int.mul_nonneg x1 (by omega)
      have y2 : x * (2 * at_ + 181) ≤ 2147483423 * 1800181 := Int.mul_le_mul (by omega) (by omega) (by omega) (by decide)
      have y3 : 0 ≤ 71149 * at_ * at_ := Int.mul_nonneg (by omega) a0
      have y4 : 71149 * at_ * at_ ≤ (71149 * 900000) * 900000 := Int.mul_le_mul (by omega) (by omega) a0 (by decide)
      exact ⟨.inl ⟨by omega, by omega⟩, by omega⟩
    obtain ⟨b1', b2'⟩ := bnd _ x1 x2
    refine ⟨_, rfl, _, rfl, 2, at_, rfl, rfl, .inl ⟨by decide, by decide⟩, _, 181, rfl, rfl, _, _, rfl, rfl, b1', _, rfl, 71149, at_, rfl, rfl, .inl ⟨by decide, by decide⟩, _, rfl, _, at_, rfl, rfl, .inr ⟨by omega, by omega⟩, _, _, rfl, rfl, _, 100, rfl, rfl, _, 3, rfl, rfl, ⟨by decide, by decide, b2'⟩, .inl ⟨_, rfl, _, 2147483629, rfl, rfl, (show (0 : Int) < 2147483629 by decide), ?_⟩⟩
    refine ⟨_, rfl, _, 32, rfl, rfl, ⟨by decide, by decide⟩, .inl ⟨_, rfl, _, rfl, _, m, rfl, rfl, m0, ?_⟩⟩
    exact fin _ _ (ExB.refl p H2) ⟨cs, at_ + 1, gr, hp2, hl2, cl, by omega, by omega, g0⟩ (Int.emod_nonneg _ (by omega)) (Int.emod_lt_of_pos _ m0)
  have lp : l ≠ p := fun z => by
    rw [z, hp] at hl
    injection hl with hl
    injection hl with hl
    cases cs with
    | nil => cases hl
    | cons c cs => rw [List.map_cons] at hl; injection hl with h1 _; cases h1
  refine ⟨_, rfl, p, _, 2, .int gr, rfl, rfl, SqL.of hp, rfl, gr, 0, rfl, rfl, decide ((0 : Int) < gr), rfl, ?_⟩
  by_cases hg : (0 : Int) < gr
  · rw [decide_eq_true hg]
    refine iteT ⟨_, rfl, p, _, 2, .int gr, rfl, rfl, SqL.of hp, rfl, .inl ⟨gr, rfl, _, rfl, gr, m, rfl, rfl, m0, ?_⟩⟩
    refine ⟨_, rfl, p, _, 2, .int gr, rfl, rfl, SqL.of hp, rfl, .inl ⟨gr, rfl, _, rfl, gr, m, rfl, rfl, ⟨m0, by omega⟩, ?_⟩⟩
    refine ⟨_, rfl, p, _, 2, 2, rfl, rfl, hp, rfl, ?_⟩
    refine ⟨_, rfl, q _ _ (ExB.refl p H).put ⟨cs, at_, gr / m, upd_same, by rw [upd_ne lp]; exact hl, cl, a0, by omega, Int.ediv_nonneg g0 (by omega)⟩ (Int.emod_nonneg _ (by omega)) (Int.emod_lt_of_pos _ m0)⟩
  rw [decide_eq_false hg]
  refine iteF ?_
  refine ⟨_, rfl, p, _, 1, .int at_, rfl, rfl, SqL.of hp, rfl, ?_⟩
  refine ⟨_, rfl, at_, 1, rfl, rfl, _, rfl, p, _, 1, 1, rfl, rfl, hp, rfl, ?_⟩
  generalize hH1 : upd H p (.lst ([V.ref l, .int at_, .int gr].set 1 (.int (at_ + 1)))) = H1
  have hp1 : H1 p = some (.lst [.ref l, .int (at_ + 1), .int gr]) := by rw [← hH1]; exact upd_same
  have hl1 : H1 l = some (.lst (cs.map V.int)) := by rw [← hH1, upd_ne lp]; exact hl
  have b1 : ExB p H H1 := by rw [← hH1]; exact (ExB.refl p H).put
  refine ⟨_, rfl, 99951, at_, rfl, rfl, .inl ⟨by decide, by decide⟩, _, 2771, rfl, rfl, ?_⟩
  refine ⟨_, rfl, p, _, 0, .ref l, rfl, rfl, SqL.of hp1, rfl, Nat.zero_le _, fun p2 hp2 => ?_⟩
  have n2 : Ex H1 (upd H1 p2 (.lst [])) := Ex.new hp2
  refine ⟨_, _, .lst (SqL.of (n2 _ _ hl1)) (dp_ints cs), .lst (SqL.of upd_same) .nil, PySem.W.ke_shaped_ints cs, rfl, _, rfl, ?_⟩
  rw [eqv_ints_nil]
  have fin : ∀ d H', ExB p (upd H1 p2 (.lst [])) H' → PenAt H' l (b + 1) p → 0 ≤ d → d < m → Q (.int d) H' := fun d H' e => q d H' ((b1.ex n2).trans e)
  by_cases hc : cs = []
  · rw [decide_eq_true hc]
    exact iteF ⟨_, _, _, _, rfl, n2 _ _ hp1, n2 _ _ hl1, fin⟩
  · rw [decide_eq_false hc]
    have hc0 : 0 < cs.length := Nat.pos_of_ne_zero fun z => hc (List.length_eq_zero_iff.mp z)
    refine iteT ⟨_, rfl, p, _, 0, .ref l, rfl, rfl, SqL.of (n2 _ _ hp1), rfl, ?_⟩
    have hm0 : (0 : Int) < ((cs.map V.int).length : Nat) := by rw [List.length_map]; omega
    obtain ⟨v, hv⟩ := atI_mod (at_) hc0
    exact ⟨_, rfl, .inl ⟨at_, rfl, _, rfl, p, _, 0, .ref l, rfl, rfl, SqL.of (n2 _ _ hp1), rfl, l, _, rfl, .inl (SqL.of (n2 _ _ hl1)), at_, _, rfl, rfl, hm0, l, cs.map V.int, _, .int v, rfl, rfl, SqL.of (n2 _ _ hl1), hv, v, _, _, _, rfl, n2 _ _ hp1, n2 _ _ hl1, fin⟩⟩
end
end Hs
set_option Elab.async false
set_option linter.all false
set_option maxRecDepth 100000
set_option maxHeartbeats 4000000
/-! The law's pick. -/
namespace Hs
open PySem PySem.Spec PyProof.Rows L2
section
variable {P : Program} {w : World} {K : PySem.W.Frag} {mg : Str → Option Value} {base : Heap} {A : Df → Addr} {B Z : Cl → Addr}
theorem sql_b {p a : Addr} {H H' : Hp} {xs : List V} (h : SqL K H a xs) (e : ExB p H H') (n : a ≠ p) : SqL K H' a xs := by
  rcases h with (h | ⟨o, h⟩) | h
  · exact .inl (.inl (e _ _ n h))
  · exact .inl (.inr ⟨o, e _ _ n h⟩)
  · exact .inr h
theorem sqt_b {p a : Addr} {H H' : Hp} {xs : List V} (h : SqT K H a xs) (e : ExB p H H') (n : a ≠ p) : SqT K H' a xs := by
  rcases h with (h | ⟨o, h⟩) | h
  · exact .inl (.inl (e _ _ n h))
  · exact .inl (.inr ⟨o, e _ _ n h⟩)
  · exact .inr h
theorem atI_at {xs : List V} {d : Int} (h0 : 0 ≤ d) (h1 : d < (xs.length : Nat)) : ∃ v, v ∈ xs ∧ atI xs d = some v := by
  have h3 : d.toNat < xs.length := by omega
  refine ⟨xs[d.toNat], List.getElem_mem h3, ?_⟩
  unfold atI ixN
  rw [if_pos h0, if_pos h1]
  simp [h3]
def spPick (K : PySem.W.Frag) : Sp := fun vs H Q _ => ∃ (p s l : Addr) (b : Int) (xs : List V), vs = [.ref p, .ref s] ∧ PenAt H l b p ∧ SqL K H s xs ∧ s ≠ p ∧ 0 < xs.length ∧ xs.length < 1000 ∧ b < 900000 ∧ ∀ v H', ExB p H H' → PenAt H' l (b + 1) p → v ∈ xs → Q v H'
theorem sc_pick : FnScope ["_law_pen_here", "_law_some"] ["_law_pen_here", "_law_some"] (defScope (Df.st .dlaw_pick)) := ⟨rfl, rfl, rfl, by decide +kernel, rfl, by decide +kernel, by decide +kernel⟩
theorem ok_pick (T : Txt P K mg A B Z) : FnR P w K mg base CX0 2 (A .dlaw_pick) (spPick K) := by
  refine (T.d0 .dlaw_pick).fn sc_pick (fun _ _ _ _ _ _ us h => by obtain ⟨a, b, rfl⟩ := len2 h; rfl) (fun vs H Q E h => by obtain ⟨_, _, _, _, _, rfl, _⟩ := h; rfl) fun cdv Ar outer s H vs Q E hr h => ?_
  obtain ⟨p, s0, l, b, xs, rfl, hp, hs, ne, x0, x1, hb, q⟩ := h
  refine ⟨_, pss_one (ps_ret (pe_ix ix_list (pv 1) (pe_fn (ok_draw T) hr rfl (T.gD .dlaw_draw rfl) (T.dk .dlaw_draw).kp (pa_cons (pv 0) (pa_cons (pe_callB call_len_seq rfl (T.blt _ (by decide)) PySem.boot_len (pa_cons (pv 1) pa_nil)) pa_nil))) (fun _ _ => rfl))), ?_⟩
  refine ⟨_, rfl, _, rfl, _, rfl, s0, xs, rfl, .inl hs, p, l, (xs.length : Nat), b, rfl, hp, by omega, by omega, hb, fun d H' e hp' d0 d1 => ?_⟩
  obtain ⟨v, hv, ha⟩ := atI_at d0 d1
  exact ⟨s0, xs, d, v, rfl, rfl, sql_b hs e ne, ha, q v H' e hp' hv⟩
/-! ### pen -/
def spPen (K : PySem.W.Frag) : Sp := fun vs H Q _ => ∃ (s : Addr) (ns : List Int), vs = [.ref s] ∧ SqL K H s (ns.map V.int) ∧ ∀ p l H', Ex H H' → H p = none → H l = none → PenAt H' l 0 p → Q (.ref p) H'
theorem sc_pen : FnScope ["_law_script"] ["_law_script"] (defScope (Df.st .dlaw_pen)) := ⟨rfl, rfl, rfl, by decide +kernel, rfl, by decide +kernel, by decide +kernel⟩
theorem ok_pen (T : Txt P K mg A B Z) : FnR P w K mg base CX0 1 (A .dlaw_pen) (spPen K) := by
  refine (T.d0 .dlaw_pen).fn sc_pen (fun _ _ _ _ _ _ us h => by obtain ⟨a, rfl⟩ := len1 h; rfl) (fun vs H Q E h => by obtain ⟨_, _, rfl, _⟩ := h; rfl) fun cdv Ar outer s H vs Q E hr h => ?_
  obtain ⟨s0, ns, rfl, hs, q⟩ := h
  refine ⟨_, pss_one (ps_ret (pe_lst (pa_cons (pe_callTy call_list_of rfl (T.blt _ (by decide)) (by decide +kernel) (pa_cons (pe_slice sl_list (pv 0) po_none (po_some pe_int)) pa_nil)) (pa_cons pe_int (pa_cons pe_int pa_nil))))), ?_⟩
  refine ⟨_, rfl, 63, rfl, s0, _, rfl, hs, fun p1 hp1 => ?_⟩
  rw [cut_to (by decide), ← List.map_take]
  refine ⟨p1, _, rfl, .inl (SqL.of upd_same), fun p2 hp2 => ?_⟩
  refine ⟨Nat.le_trans (by show 3 ≤ 16777216; decide) (by rw [sizeLine_eq]; exact Nat.le_refl _), fun p3 hp3 => ?_⟩
  have e1 := ((Ex.new (o := .lst ((ns.take (63 : Int).toNat).map V.int)) hp1).trans (Ex.new (o := .lst ((ns.take (63 : Int).toNat).map V.int)) hp2))
  have h3 : H p3 = none := e1.free hp3
  refine q p3 p2 _ (e1.trans (Ex.new hp3)) h3 ((Ex.new hp1).free hp2) ⟨ns.take (63 : Int).toNat, 0, 0, upd_same, (Ex.new hp3) _ _ upd_same, ?_, by decide, by decide, by decide⟩
  rw [List.length_take]
  show min 63 ns.length ≤ 63
  omega
end
end Hs
set_option Elab.async false
set_option linter.all false
set_option maxRecDepth 100000
set_option maxHeartbeats 4000000
/-! The law's contents: lots. -/
namespace Hs
open PySem PySem.Spec PyProof.Rows L2
section
variable {P : Program} {w : World} {K : PySem.W.Frag} {mg : Str → Option Value} {base : Heap} {A : Df → Addr} {B Z : Cl → Addr}
theorem mu_take {T : Tab} (h : AllPos T) (i : Nat) : mu (T.take i) (fun _ => 1) ≤ mu T fun _ => 1 := by
  have e := mu_append (T.take i) (T.drop i) fun _ => 1
  rw [List.take_append_drop] at e
  have h0 : 0 ≤ mu (T.drop i) fun _ => 1 := mu_nonneg (fun p hp => h p (List.mem_of_mem_drop hp)) fun _ _ => by decide
  omega
def spLots (P : Program) (w : World) (K : PySem.W.Frag) (B : Cl → Addr) (n : Nat) : Sp := fun vs H Q _ => ∃ (l : Addr) (ps : PL), vs = [.ref l] ∧ SqL K H l (refs ps) ∧ PrsAt n H ps ∧ TabOk n (ps.map (·.2)) ∧ 1 ≤ n ∧ n ≤ 3 ∧ ps.length ≤ 15 ∧ ∀ x T H', Ex H H' → LotsAt P w B n H' T x → Eqv T (ps.map (·.2)) → T.length ≤ ps.length → Q (.ref x) H'
theorem sc_lots : FnScope ["_law_pairs", "_law_found", "_law_pair"] ["_law_pairs"] (defScope (Df.st .dlaw_lots)) := ⟨rfl, rfl, rfl, by decide +kernel, rfl, by decide +kernel, by decide +kernel⟩
theorem ok_lots (T : Txt P K mg A B Z) (n : Nat) : FnR P w K mg base CX0 9 (A .dlaw_lots) (spLots P w K B n) := by
  refine (T.d0 .dlaw_lots).fn sc_lots (fun _ _ _ _ _ _ us h => by obtain ⟨a, rfl⟩ := len1 h; rfl) (fun vs H Q E h => by obtain ⟨_, _, rfl, _⟩ := h; rfl) fun cdv Ar outer s H vs Q E hr h => ?_
  obtain ⟨l, ps, rfl, hl, hps, tok, n1, n3, pl, q⟩ := h
  have nd := sc_lots.nd
  have mL := T.mkC .cLots (d := .dLots_init) rfl
  have hr7 : Room (6 + 1) _ := hr.mono (j := 7) (by decide)
  refine ⟨_, pss_cons (ps_set (i := 1) nd rfl (.inl rfl) (pe_mk0 mL (ok_LoI T n) hr7 rfl (T.gC .cLots)))
    (pss_cons (ps_for PassesOwn.never rfl (pi_list (pv 0)) (pg_name (i := 2) nd rfl (.inl rfl)) (pss_one (ps_set (i := 1) nd rfl (.inl rfl) (pe_op (op_own2 (op := .Add) (SP := fun _ => spAdd P w B n) (fun C C' g => add_any T n C C' g) hr) (pv 1) (pe_mk mL (ok_LoI T n) hr7 rfl (T.gC .cLots) (pa_cons (pv 2) pa_nil))))))
    (pss_one (ps_ret (pv 1)))), ?_⟩
  intro x dx hx hdx _
  have ok0 : TabOk n [] := ⟨(fun p h => nomatch h), (fun p h => nomatch h), (fun p h => nomatch h), Nat.zero_le _, by rw [mu_nil]; decide⟩
  refine ⟨x, dx, [], rfl, upd_same, (fun y h => nomatch h), ok0, n1, n3, fun H1 T0 eb hT0 he0 hl0 => ⟨rfl, ?_⟩⟩
  have e1 : Ex H H1 := mk_ex hx hdx eb
  refine ⟨_, rfl, l, rfl, ⟨_, ex_l e1 hl⟩, for_it walk_list (fun i σ H' => (∃ x z Tf, σ = [some (.ref l), some (.ref x), z] ∧ LotsAt P w B n H' Tf x ∧ Eqv Tf ((ps.take i).map (·.2)) ∧ Tf.length ≤ i) ∧ Ex H H') ⟨⟨x, none, T0, rfl, hT0, he0, hl0⟩, e1⟩ (fun i σ H' _ p => ex_l p.2 hl) (fun i x σ H2 H3 hi p y => ?_) (fun σ H' p => ?_)⟩
  · obtain ⟨rfl, hx⟩ := y
    obtain ⟨⟨xf, z, Tf, rfl, hf, hfe, hfl⟩, e2⟩ := p
    unfold refs at hx
    rw [List.getElem?_map] at hx
    obtain ⟨y, hxa, rfl⟩ := Option.map_eq_some_iff.mp hx
    have hym := List.mem_of_getElem? hxa
    have hi2 : i < ps.length := by
      rcases Nat.lt_or_ge i ps.length with h | h
      · exact h
      · rw [List.getElem?_eq_none h] at hxa; cases hxa
    have hyt : y.2 ∈ ps.map (·.2) := List.mem_map_of_mem hym
    obtain ⟨hyp, hyl, hy0⟩ := hps y hym
    have ty : mu [y.2] (fun _ => 1) < 2 ^ 100 := by
      rw [mu_cons, mu_nil]
      have h1 := le_mu tok.pos hyt
      have h2 := tok.tot
      omega
    have oky : TabOk n ([y].map (·.2)) := ⟨fun p h => by rw [List.mem_singleton.mp h]; exact hy0, fun p h => by rw [List.mem_singleton.mp h]; exact hyl, fun p h => by rw [List.mem_singleton.mp h]; exact tok.big _ hyt, by show 1 ≤ 20; decide, ty⟩
    refine ⟨_, rfl, _, rfl, fun x2 dx2 hx2 hdx2 _ => ?_⟩
    have pre := mk_pre (C := B .cLots) hx2 hdx2
    refine ⟨x2, dx2, [y], rfl, upd_same, fun w hw => by rw [List.mem_singleton.mp hw]; exact ⟨(hyp.mono e2).mono pre, hyl, hy0⟩, oky, n1, n3, fun H4 T1 eb4 hT1 he1 hl1 => ⟨rfl, ?_⟩⟩
    have e4 : Ex H3 H4 := mk_ex hx2 hdx2 eb4
    have hf4 := hf.mono e4
    have hf0 := hf4
    have hT10 := hT1
    obtain ⟨da, d, wa, es, a1, a2, a3, a4, a5⟩ := hf4
    obtain ⟨db, d', wb, es', b1, b2, b3, b4, b5⟩ := hT1
    have e5 : (ps.take (i + 1)).map (·.2) = (ps.take i).map (·.2) ++ [y].map (·.2) := by rw [List.take_succ, hxa, List.map_append]; rfl
    have eqv : Eqv (Tf ++ T1) ((ps.take (i + 1)).map (·.2)) := by rw [e5]; exact hfe.app he1
    have okk : TabOk n (Tf ++ T1) := by
      refine ⟨a4.pos.app b4.pos, fun p hp => (List.mem_append.mp hp).elim (a4.len p) (b4.len p), fun p hp => (List.mem_append.mp hp).elim (a4.big p) (b4.big p), ?_, ?_⟩
      · rw [List.length_append]
        have : ([y] : PL).length = 1 := rfl
        omega
      · rw [eqv, List.map_take]
        have := mu_take tok.pos (i + 1)
        have := tok.tot
        omega
    refine ⟨xf, _, da, _, x2, _, db, _, rfl, rfl, a1, b1, ⟨rfl, rfl⟩, xf, x2, Tf, T1, rfl, hf0, hT10, okk, n1, n3, fun x3 T3 H5 e6 hT3 he3 hl3 => ⟨⟨x3, _, T3, rfl, hT3, he3.trans eqv, ?_⟩, (e2.trans e4).trans e6⟩⟩
    rw [List.length_append] at hl3
    have : ([y] : PL).length = 1 := rfl
    omega
  · obtain ⟨⟨xf, z, Tf, rfl, hf, hfe, hfl⟩, e2⟩ := p
    unfold refs at hfe hfl
    rw [List.length_map] at hfe hfl
    rw [List.take_length] at hfe
    exact ⟨_, rfl, q xf Tf H' e2 hf hfe hfl⟩
end
end Hs
set_option Elab.async false
set_option linter.all false
set_option maxRecDepth 100000
set_option maxHeartbeats 4000000
/-! The law's negated pairs. -/
namespace Hs
open PySem PySem.Spec PyProof.Rows L2
section
variable {P : Program} {w : World} {K : PySem.W.Frag} {mg : Str → Option Value} {base : Heap} {A : Df → Addr} {B Z : Cl → Addr}
def fNg : V → Option V
  | .int i => some (.int (0 - i))
  | x => some x
theorem fm_ng (r : Rw) : (r.map oV).filterMap fNg = (ngR r).map oV := by
  unfold ngR
  induction r with
  | nil => rfl
  | cons o r ih =>
    rw [List.map_cons, List.filterMap_cons, List.map_cons, List.map_cons, ← ih]
    cases o <;> rfl
def spNeg (K : PySem.W.Frag) (n : Nat) : Sp := fun vs H Q _ => ∃ (l : Addr) (ps : PL), vs = [.ref l] ∧ SqL K H l (refs ps) ∧ PrsAt n H ps ∧ n ≤ 3 ∧ ps.length ≤ 15 ∧ ∀ l' ps' H', Ex H H' → H' l' = some (.lst (refs ps')) → PrsAt n H' ps' → ps'.map (·.2) = ngT (ps.map (·.2)) → Q (.ref l') H'
theorem sc_neg : FnScope ["_law_pairs", "_law_found", "_law_row", "_law_times", "_law_value"] ["_law_pairs"] (defScope (Df.st .dlaw_negated)) := ⟨rfl, rfl, rfl, by decide +kernel, rfl, by decide +kernel, by decide +kernel⟩
theorem ok_neg (T : Txt P K mg A B Z) (n : Nat) : FnR P w K mg base CX0 1 (A .dlaw_negated) (spNeg K n) := by
  refine (T.d0 .dlaw_negated).fn sc_neg (fun _ _ _ _ _ _ us h => by obtain ⟨a, rfl⟩ := len1 h; rfl) (fun vs H Q E h => by obtain ⟨_, _, rfl, _⟩ := h; rfl) fun cdv Ar outer s H vs Q E hr h => ?_
  obtain ⟨l, ps, rfl, hl, hps, n3, pl, q⟩ := h
  have nd := sc_neg.nd
  refine ⟨_, pss_cons (ps_set (i := 1) nd rfl (.inl rfl) (pe_lst pa_nil))
    (pss_cons (ps_for PassesOwn.never rfl (pi_list (pv 0)) (pg_tup rfl (pgs_cons (pg_name (i := 2) nd rfl (.inl rfl)) (pgs_cons (pg_name (i := 3) nd rfl (.inl rfl)) pgs_nil)))
      (pss_one (ps_expr (pe_bm PySem.F.plainAttrs_list PySem.F.slot_list_append PySem.F.type_list_append L2.mt_append (pv 1) (pa_cons (pe_tup (pa_cons (pe_callTy call_tuple_of rfl (T.blt _ (by decide)) (by decide +kernel) (pa_cons
        (pe_lc (own := [("_law_value", 4)]) (g := gName 4) (tt := tYes) rfl nd (pi_tup (pv 2)) (blkOk_by (N := ["_law_pairs", "_law_found", "_law_row", "_law_times", "_law_value"]) (sc := defScope (Df.st .dlaw_negated)) (by decide +kernel))
          (fun _ _ _ _ _ => pg_name (i := 4) nd rfl (.inl rfl)) (fun _ _ _ _ _ => pts_nil) (fun _ _ _ _ _ => pe_ifExp (pt_cmp (pc_isN (pv 4))) pe_non (pe_op op_sub pe_int (pv 4)))) pa_nil)) (pa_cons (pv 3) pa_nil))) pa_nil)))))
    (pss_one (ps_ret (pv 1)))), ?_⟩
  refine ⟨Nat.zero_le _, fun f hf => ?_⟩
  have e0 : Ex H (upd H f (.lst [])) := Ex.new hf
  refine ⟨_, rfl, l, rfl, ⟨_, ex_l e0 hl⟩, for_it walk_list (fun i σ H' => (∃ z2 z3 z4, σ = [some (.ref l), some (.ref f), z2, z3, z4]) ∧ Ex H H' ∧ ∃ qs : PL, H' f = some (.lst (refs qs)) ∧ PrsAt n H' qs ∧ qs.map (·.2) = ngT ((ps.take i).map (·.2)) ∧ qs.length = i) ⟨⟨none, none, none, rfl⟩, e0, [], upd_same, (fun x h => nomatch h), rfl, rfl⟩ (fun i σ H' _ p => ex_l p.2.1 hl) (fun i x σ H2 H3 hi p y => ?_) (fun σ H' p => ?_)⟩
  · obtain ⟨rfl, hx⟩ := y
    obtain ⟨⟨z2, z3, z4, rfl⟩, e2, qs, hf2, hqs, hqe, hql⟩ := p
    unfold refs at hx
    rw [List.getElem?_map] at hx
    obtain ⟨⟨b, r, t⟩, hxa, rfl⟩ := Option.map_eq_some_iff.mp hx
    have hym := List.mem_of_getElem? hxa
    obtain ⟨⟨a, h1, h2⟩, hl1, ht⟩ := hps _ hym
    have hi2 : i < ps.length := by
      rcases Nat.lt_or_ge i ps.length with h | h
      · exact h
      · rw [List.getElem?_eq_none h] at hxa; cases hxa
    refine ⟨b, _, rfl, SqT.of (e2 _ _ h1), rfl, _, _, rfl, _, _, rfl, rfl, ?_⟩
    refine ⟨_, rfl, .inl ⟨rfl, _, SqL.of hf2⟩, _, rfl, a, rfl, ⟨_, SqT.of (e2 _ _ h2)⟩, fun D hD => lc_at walk_tup (fun H' e => SqT.of (e _ _ (e2 _ _ h2))) hD (by rw [List.length_map, hl1]; omega) fNg (fun x H5 hx e5 KK KN k1 k2 => ?_) fun H4 e4 h4 => ?_⟩
    · obtain ⟨o, rfl⟩ := oV_all hx
      cases o with
      | none => exact ⟨rfl, _, rfl, true, rfl, iteT (k1 _ _ (Ex.refl _) rfl)⟩
      | some i => exact ⟨rfl, _, rfl, false, rfl, iteF ⟨_, rfl, 0, i, rfl, rfl, k1 _ _ (Ex.refl _) rfl⟩⟩
    rw [fm_ng] at h4
    refine ⟨D, _, rfl, .inl ⟨SqL.of h4, fun p1 hp1 => ⟨_, rfl, two_le, fun p2 hp2 => ?_⟩⟩⟩
    have n1 := Ex.new (o := .tup ((ngR r).map oV)) hp1
    have n2 := Ex.new (o := .tup [.ref p1, .int t]) hp2
    have e6 := (e4.trans n1).trans n2
    have hf6 := e6 _ _ hf2
    have kp : ∀ {z : Addr} {zs} {H6 : Hp} {o : HO}, H6 f = some (.lst (refs qs)) → H6 z = some (.tup zs) → upd H6 f o z = some (.tup zs) := fun hf h => by
      rw [upd_ne (fun z => by rw [z, hf] at h; cases h)]; exact h
    refine ⟨f, _, _, rfl, rfl, hf6, by unfold refs; rw [List.length_map, sizeLine_eq]; omega, ⟨_, _, _, rfl⟩, Ex.mut (e2.trans e6) hf, qs ++ [(p2, (ngR r, t))], ?_, fun x hx => ?_, ?_, by rw [List.length_append, hql]; rfl⟩
    · rw [upd_same]; unfold refs; rw [List.map_append]; rfl
    · rcases List.mem_append.mp hx with hx | hx
      · obtain ⟨⟨a', g1, g2⟩, g3⟩ := hqs x hx
        exact ⟨⟨a', kp hf6 (e6 _ _ g1), kp hf6 (e6 _ _ g2)⟩, g3⟩
      · rw [List.mem_singleton.mp hx]
        refine ⟨⟨p1, kp hf6 upd_same, kp hf6 (n2 _ _ upd_same)⟩, ?_, ht⟩
        show (ngR r).length = n
        unfold ngR
        rw [List.length_map]; exact hl1
    · rw [List.map_append, hqe, List.take_succ, hxa]
      unfold ngT
      rw [List.map_append, List.map_append]
      rfl
  · obtain ⟨⟨z2, z3, z4, rfl⟩, e2, qs, hf2, hqs, hqe, hql⟩ := p
    unfold refs at hqe
    rw [List.length_map, List.take_length] at hqe
    exact ⟨_, rfl, q f qs H' e2 hf2 hqs hqe⟩
end
end Hs
set_option Elab.async false
set_option linter.all false
set_option maxRecDepth 100000
set_option maxHeartbeats 4000000
/-! The law's drawn pairs. -/
namespace Hs
open PySem PySem.Spec PyProof.Rows L2
section
variable {P : Program} {w : World} {K : PySem.W.Frag} {mg : Str → Option Value} {base : Heap} {A : Df → Addr} {B Z : Cl → Addr}
theorem PenAt.le {H : Hp} {b b' : Int} {p l : Addr} (h : PenAt H l b p) (e : b ≤ b') : PenAt H l b' p := by
  obtain ⟨cs, a, g, h1, h2, h3, h4, h5, h6⟩ := h
  exact ⟨cs, a, g, h1, h2, h3, h4, by omega, h6⟩
theorem PenAt.ex {H H' : Hp} {b : Int} {p l : Addr} (h : PenAt H l b p) (e : Ex H H') : PenAt H' l b p := by
  obtain ⟨cs, a, g, h1, h2, h3⟩ := h
  exact ⟨cs, a, g, e _ _ h1, e _ _ h2, h3⟩
theorem PenAt.ne {H : Hp} {b : Int} {p a l : Addr} {xs : List V} (h : PenAt H l b p) (ha : H a = some (.tup xs)) : a ≠ p := by
  obtain ⟨cs, at_, g, h1, _⟩ := h
  exact fun z => by rw [z, h1] at ha; cases ha
theorem PrAt.exp {H H' : Hp} {b : Int} {p a l : Addr} {q : Rw × Int} (h : PrAt H a q) (hp : PenAt H l b p) (e : ExB p H H') : PrAt H' a q := by
  obtain ⟨c, h1, h2⟩ := h
  exact ⟨c, e _ _ (hp.ne h1) h1, e _ _ (hp.ne h2) h2⟩
def DrB (ps : PL) : Prop := ∀ x, x ∈ ps → (∀ v, some v ∈ x.2.1 → v.natAbs < 2 ^ 70) ∧ x.2.2 ≤ 10 ^ 25
def eight : List (Option Int) := [none, some (-1), some 0, some 1, some 2, some 3, some 5, some (10 ^ 20)]
theorem eight_ok {o : Option Int} (h : o ∈ eight) : ∀ v, o = some v → v.natAbs < 2 ^ 70 := by
  have key : ∀ o ∈ eight, ∀ v ∈ o, v.natAbs < 2 ^ 70 := by decide
  exact fun v e => key o h v e
def five : List Int := [1, 1, 2, 3, 10 ^ 25]
theorem five_ok {t : Int} (h : t ∈ five) : 0 < t ∧ t ≤ 10 ^ 25 := by
  have key : ∀ t ∈ five, 0 < t ∧ t ≤ 10 ^ 25 := by decide
  exact key t h
def spDrP (n : Nat) : Sp := fun vs H Q _ => ∃ (p c : Addr) (most b : Int), vs = [.ref p, .int (n : Nat), .int most] ∧ PenAt H c b p ∧ 1 ≤ n ∧ n ≤ 3 ∧ 0 ≤ most ∧ most ≤ 9 ∧ b < 800000 ∧
  ∀ l (ps : PL) H', ExB p H H' → PenAt H' c (b + 100) p → l ≠ p → H' l = some (.lst (refs ps)) → PrsAt n H' ps → (∀ x, x ∈ ps → (∀ v, some v ∈ x.2.1 → v.natAbs < 2 ^ 70) ∧ x.2.2 ≤ 10 ^ 25) → (ps.length : Int) ≤ most → Q (.ref l) H'
theorem sc_drp : FnScope ["_law_pen_here", "_law_width", "_law_most", "_law_found", "_law_turn", "_law_row", "_law_k"] ["_law_pen_here", "_law_width", "_law_most"] (defScope (Df.st .dlaw_drawn_pairs)) := ⟨rfl, rfl, rfl, by decide +kernel, rfl, by decide +kernel, by decide +kernel⟩
theorem ok_drp (T : Txt P K mg A B Z) (n : Nat) : FnR P w K mg base CX0 3 (A .dlaw_drawn_pairs) (spDrP n) := by
  refine (T.d0 .dlaw_drawn_pairs).fn sc_drp (fun _ _ _ _ _ _ us h => by obtain ⟨a, b, c, rfl⟩ := len3 h; rfl) (fun vs H Q E h => by obtain ⟨_, _, _, _, rfl, _⟩ := h; rfl) fun cdv Ar outer s H vs Q E hr h => ?_
  obtain ⟨p, c, most, b, rfl, hp, n1, n3, m0, m9, hb, q⟩ := h
  have nd := sc_drp.nd
  have hr1 : Room 1 _ := hr.mono (j := 1) (by decide)
  refine ⟨_, pss_cons (ps_set (i := 3) nd rfl (.inl rfl) (pe_lst pa_nil))
    (pss_cons (ps_for PassesOwn.never rfl (pi_range1 (by rfl) (T.blt _ (by decide)) (pa_cons (pe_fn (ok_draw T) hr1 rfl (T.gD .dlaw_draw rfl) (T.dk .dlaw_draw).kp (pa_cons (pv 0) (pa_cons (pe_op op_add (pv 2) pe_int) pa_nil))) pa_nil)) (pg_name (i := 4) nd rfl (.inl rfl))
      (pss_cons (ps_set (i := 5) nd rfl (.inl rfl) (pe_callTy call_tuple_of rfl (T.blt _ (by decide)) (by decide +kernel) (pa_cons
        (pe_lc (own := [("_law_k", 6)]) (g := gName 6) (tt := tYes) rfl nd (pi_range1 (by rfl) (T.blt _ (by decide)) (pa_cons (pv 1) pa_nil)) (blkOk_by (N := ["_law_pen_here", "_law_width", "_law_most", "_law_found", "_law_turn", "_law_row", "_law_k"]) (sc := defScope (Df.st .dlaw_drawn_pairs)) (by decide +kernel))
          (fun _ _ _ _ _ => pg_name (i := 6) nd rfl (.inl rfl)) (fun _ _ _ _ _ => pts_nil) (fun _ _ _ _ _ => pe_fn (ok_pick T) (by exact hr) rfl (T.gD .dlaw_pick rfl) (T.dk .dlaw_pick).kp (pa_cons (pv 0) (pa_cons (pe_lst (pa_cons pe_non (pa_cons (pe_un un_neg pe_int) (pa_cons pe_int (pa_cons pe_int (pa_cons pe_int (pa_cons pe_int (pa_cons pe_int (pa_cons (pe_op op_pow pe_int pe_int) pa_nil))))))))) pa_nil)))) pa_nil)))
      (pss_one (ps_expr (pe_bm PySem.F.plainAttrs_list PySem.F.slot_list_append PySem.F.type_list_append L2.mt_append (pv 3) (pa_cons (pe_tup (pa_cons (pv 5) (pa_cons (pe_fn (ok_pick T) hr rfl (T.gD .dlaw_pick rfl) (T.dk .dlaw_pick).kp (pa_cons (pv 0) (pa_cons (pe_lst (pa_cons pe_int (pa_cons pe_int (pa_cons pe_int (pa_cons pe_int (pa_cons (pe_op op_pow pe_int pe_int) pa_nil)))))) pa_nil))) pa_nil))) pa_nil))))))
    (pss_one (ps_ret (pv 3)))), ?_⟩
  have fp : ∀ {x : Addr}, H x = none → x ≠ p := fun h z => by
    obtain ⟨cs, a, g, h1, _⟩ := hp
    rw [z, h1] at h; cases h
  refine ⟨Nat.zero_le _, fun f hf => ?_⟩
  have e0 : Ex H (upd H f (.lst [])) := Ex.new hf
  refine ⟨_, rfl, _, rfl, most, 1, rfl, rfl, p, c, most + 1, b, rfl, hp.ex e0, by omega, by omega, by omega, fun d H1 e1 hp1 d0 d1 => ⟨d, rfl, by omega, by omega, ?_⟩⟩
  have nf := fp hf
  have hf1 : H1 f = some (.lst []) := e1 _ _ nf upd_same
  have E1 : ExB p H H1 := (ex_b e0).trans e1
  refine for_it walk_range (fun i σ H' => (∃ z4 z5 z6, σ = [some (.ref p), some (.int (n : Nat)), some (.int most), some (.ref f), z4, z5, z6]) ∧ ExB p H H' ∧ PenAt H' c (b + 1 + 4 * (i : Nat)) p ∧ ∃ ps : PL, H' f = some (.lst (refs ps)) ∧ PrsAt n H' ps ∧ DrB ps ∧ ps.length = i) ⟨⟨_, _, _, rfl⟩, E1, hp1.le (by omega), [], hf1, (fun x h => nomatch h), (fun x h => nomatch h), rfl⟩ (fun _ _ _ _ _ => trivial) (fun i x σ H2 H3 hi q2 y => ?_) (fun σ H' q2 => ?_)
  · obtain ⟨rfl, rfl⟩ := y
    obtain ⟨⟨z4, z5, z6, rfl⟩, e2, hp2, ps, h1, h2, h3, h4⟩ := q2
    have di : (i : Int) ≤ 9 := by omega
    refine ⟨_, rfl, (n : Nat), rfl, by omega, by omega, fun D hD => lc_it walk_range (fun j H' => ExB p H3 H' ∧ PenAt H' c (b + 1 + 4 * (i : Nat) + j) p ∧ ∃ r : Rw, H' D = some (.lst (r.map oV)) ∧ r.length = j ∧ ∀ o, o ∈ r → o ∈ eight) ⟨ex_b (Ex.new hD), (hp2.ex (Ex.new hD)).le (by omega), [], upd_same, rfl, (fun x h => nomatch h)⟩ (fun _ _ _ _ => trivial) (fun j x H4 H5 hj q4 y => ?_) (fun H4 q4 => ?_)⟩
    · obtain ⟨rfl, rfl⟩ := y
      obtain ⟨e4, hp4, r, k1, k2, k3⟩ := q4
      have dp : D ≠ p := fun z => by
        obtain ⟨cs, a, g, g1, _⟩ := hp2
        rw [z, g1] at hD; cases hD
      refine ⟨rfl, _, rfl, 1, rfl, 10, 20, rfl, rfl, ⟨by decide, by decide, by decide⟩, Nat.le_trans (by show 8 ≤ 16777216; decide) (by rw [sizeLine_eq]; exact Nat.le_refl _), fun s0 hs0 => ?_⟩
      have sp : s0 ≠ p := fun z => by
        obtain ⟨cs, a, g, g1, _⟩ := hp4
        rw [z, g1] at hs0; cases hs0
      refine ⟨p, s0, c, _, eight.map oV, rfl, hp4.ex (Ex.new hs0), SqL.of upd_same, sp, by decide, by decide, by omega, fun v H6 e6 hp6 hv => ?_⟩
      obtain ⟨o, ho, rfl⟩ := List.mem_map.mp hv
      have e46 : ExB p H5 H6 := (ex_b (Ex.new hs0)).trans e6
      refine ⟨_, e46 _ _ dp k1, by rw [List.length_map, k2, sizeLine_eq]; omega, ?_, ?_, r ++ [o], by rw [upd_same, List.map_append]; rfl, by rw [List.length_append, k2]; rfl, fun x hx => (List.mem_append.mp hx).elim (k3 x) fun h => by rw [List.mem_singleton.mp h]; exact ho⟩
      · exact fun a o na h => by
          rw [upd_ne (ne_of_none h hD)]
          exact e46 a o na (e4 a o na h)
      · have dc : c ≠ D := fun z => by
          obtain ⟨cs, a, g, g1, g2, _⟩ := hp2
          rw [z, hD] at g2; cases g2
        obtain ⟨cs, a, g, g1, g2, g3, g4, g5, g6⟩ := hp6
        exact ⟨cs, a, g, by rw [upd_ne dp.symm]; exact g1, by rw [upd_ne dc]; exact g2, g3, g4, by omega, g6⟩
    · obtain ⟨e4, hp4, r, k1, k2, k3⟩ := q4
      refine ⟨D, _, rfl, .inl ⟨SqL.of k1, fun t ht => ?_⟩⟩
      have k4 := hp4.ex (Ex.new (o := .tup (r.map oV)) ht)
      have e5 : ExB p H3 (upd H4 t (.tup (r.map oV))) := e4.trans (ex_b (Ex.new ht))
      have hf5 := e5 _ _ nf h1
      refine ⟨_, rfl, .inl ⟨rfl, _, SqL.of hf5⟩, ?_⟩
      refine ⟨_, rfl, _, rfl, 10, 25, rfl, rfl, ⟨by decide, by decide, by decide⟩, Nat.le_trans (by show 5 ≤ 16777216; decide) (by rw [sizeLine_eq]; exact Nat.le_refl _), fun s0 hs0 => ?_⟩
      have sp : s0 ≠ p := fun z => by
        obtain ⟨cs, a, g, g1, _⟩ := k4
        rw [z, g1] at hs0; cases hs0
      refine ⟨p, s0, c, _, five.map V.int, rfl, k4.ex (Ex.new hs0), SqL.of upd_same, sp, by decide, by decide, by omega, fun v H6 e6 hp6 hv => ?_⟩
      obtain ⟨tm, htm, rfl⟩ := List.mem_map.mp hv
      have e56 : ExB p H3 H6 := (e5.trans (ex_b (Ex.new hs0))).trans e6
      obtain ⟨tm0, tm1⟩ := five_ok htm
      have tp : t ≠ p := fun z => by
        obtain ⟨cs, a, g, g1, _⟩ := hp4
        rw [z, g1] at ht; cases ht
      have ht6 : H6 t = some (.tup (r.map oV)) := ((ex_b (Ex.new hs0)).trans e6) _ _ tp upd_same
      refine ⟨two_le, fun p2 hq2 => ?_⟩
      have n2 := Ex.new (o := .tup [.ref t, .int tm]) hq2
      have e62 : ExB p H3 (upd H6 p2 (.tup [.ref t, .int tm])) := e56.trans (ex_b n2)
      have hf6 := e62 _ _ nf h1
      have kp : ∀ {z : Addr} {zs} {o : HO}, upd H6 p2 (.tup [.ref t, .int tm]) z = some (.tup zs) → upd (upd H6 p2 (.tup [.ref t, .int tm])) f o z = some (.tup zs) := fun h => by
        rw [upd_ne (fun z => by rw [z, hf6] at h; cases h)]; exact h
      have rl : r.length = n := by rw [k2]; omega
      refine ⟨f, _, _, rfl, rfl, hf6, by unfold refs; rw [List.length_map, sizeLine_eq]; omega, ⟨_, _, _, rfl⟩, ?_, ?_, ps ++ [(p2, (r, tm))], ?_, fun x hx => ?_, fun x hx => ?_, by rw [List.length_append, h4]; rfl⟩
      · exact fun a o na h => by
          rw [upd_ne (ne_of_none h hf)]
          exact (e2.trans e62) a o na h
      · have fc : c ≠ f := fun z => by
          obtain ⟨cs, a, g, g1, g2, _⟩ := hp
          rw [z, hf] at g2; cases g2
        obtain ⟨cs, a, g, g1, g2, g3, g4, g5, g6⟩ := hp6.ex n2
        exact ⟨cs, a, g, by rw [upd_ne nf.symm]; exact g1, by rw [upd_ne fc]; exact g2, g3, g4, by omega, g6⟩
      · rw [upd_same]; unfold refs; rw [List.map_append]; rfl
      · rcases List.mem_append.mp hx with hx | hx
        · obtain ⟨⟨a', g1, g2⟩, g3⟩ := h2 x hx
          exact ⟨⟨a', kp (e62 _ _ (hp2.ne g1) g1), kp (e62 _ _ (hp2.ne g2) g2)⟩, g3⟩
        · rw [List.mem_singleton.mp hx]
          exact ⟨⟨t, kp upd_same, kp (n2 _ _ ht6)⟩, rl, tm0⟩
      · rcases List.mem_append.mp hx with hx | hx
        · exact h3 x hx
        · rw [List.mem_singleton.mp hx]
          exact ⟨fun v hv => eight_ok (k3 _ hv) v rfl, tm1⟩
  · obtain ⟨⟨z4, z5, z6, rfl⟩, e2, hp2, ps, h1, h2, h3, h4⟩ := q2
    exact ⟨_, rfl, q f ps H' e2 (hp2.le (by omega)) nf h1 h2 h3 (by omega)⟩
end
end Hs
set_option Elab.async false
set_option linter.all false
set_option maxRecDepth 100000
set_option maxHeartbeats 4000000
/-! The law's drawn tests. -/
namespace Hs
open PySem PySem.Spec PyProof.Rows L2
def fixW (b : Bool) : Str := if b = true then "always" else "never"
/-- the drawn test F stands at a -/
def DtAt (N : List Str) (S : List Int) (H : Hp) : Flt → Addr → Prop
  | .cmp o x y, a => H a = some (.tup [.str (opW o), sv x, sv y]) ∧ SideOk N S x ∧ SideOk N S y ∧ ((∃ c, x = .col c) ∨ ∃ c, y = .col c)
  | .among c vs, a => ∃ l, H a = some (.tup [.str "in", .str c, .ref l]) ∧ H l = some (.lst (vs.map V.int)) ∧ c ∈ N ∧ (vs.length = 1 ∨ vs.length = 2) ∧ ∀ v, v ∈ vs → v ∈ S
  | .missing c, a => H a = some (.tup [.str "null", .str c]) ∧ c ∈ N
  | .fixed b, a => H a = some (.tup [.str (fixW b)])
  | .turned f, a => ∃ b, H a = some (.tup [.str "not", .ref b]) ∧ DtAt N S H f b
  | .both f g, a => ∃ b c, H a = some (.tup [.str "and", .ref b, .ref c]) ∧ DtAt N S H f b ∧ DtAt N S H g c
  | .either f g, a => ∃ b c, H a = some (.tup [.str "or", .ref b, .ref c]) ∧ DtAt N S H f b ∧ DtAt N S H g c
section
variable {N : List Str} {S : List Int} {H H' : Hp}
theorem DtAt.by {F : Flt} : ∀ {a : Addr}, (∀ a xs, H a = some (.tup xs) → H' a = some (.tup xs)) → (∀ a v vs, H a = some (.lst (.int v :: vs)) → H' a = some (.lst (.int v :: vs))) → DtAt N S H F a → DtAt N S H' F a := by
  induction F with
  | cmp o x y => exact fun e1 e2 h => ⟨e1 _ _ h.1, h.2⟩
  | among c vs =>
    rintro a e1 e2 ⟨l, h1, h2, h3, h4, h5⟩
    refine ⟨l, e1 _ _ h1, ?_, h3, h4, h5⟩
    cases vs with
    | nil => rcases h4 with h | h <;> cases h
    | cons v vs => exact e2 _ _ _ h2
  | missing c => exact fun e1 e2 h => ⟨e1 _ _ h.1, h.2⟩
  | fixed b => exact fun e1 e2 h => e1 _ _ h
  | turned f ih =>
    rintro a e1 e2 ⟨b, h1, h2⟩
    exact ⟨b, e1 _ _ h1, ih e1 e2 h2⟩
  | both f g ih1 ih2 =>
    rintro a e1 e2 ⟨b, c, h1, h2, h3⟩
    exact ⟨b, c, e1 _ _ h1, ih1 e1 e2 h2, ih2 e1 e2 h3⟩
  | either f g ih1 ih2 =>
    rintro a e1 e2 ⟨b, c, h1, h2, h3⟩
    exact ⟨b, c, e1 _ _ h1, ih1 e1 e2 h2, ih2 e1 e2 h3⟩
theorem DtAt.mono {F : Flt} {a : Addr} (h : DtAt N S H F a) (e : Ex H H') : DtAt N S H' F a := h.by (fun _ _ => e _ _) fun _ _ _ => e _ _
theorem PenAt.ni {c : Addr} {b : Int} {p a : Addr} {v : Int} {vs : List V} (h : PenAt H c b p) (ha : H a = some (.lst (.int v :: vs))) : a ≠ p := by
  obtain ⟨cs, at_, g, h1, _⟩ := h
  exact fun z => by rw [z, h1] at ha; cases ha
theorem PenAt.ns {c : Addr} {b : Int} {p a : Addr} {v : Str} {vs : List V} (h : PenAt H c b p) (ha : H a = some (.lst (.str v :: vs))) : a ≠ p := by
  obtain ⟨cs, at_, g, h1, _⟩ := h
  exact fun z => by rw [z, h1] at ha; cases ha
theorem PenAt.nn {c : Addr} {b : Int} {p a : Addr} (h : PenAt H c b p) (ha : H a = none) : a ≠ p := by
  obtain ⟨cs, at_, g, h1, _⟩ := h
  exact fun z => by rw [z, h1] at ha; cases ha
theorem DtAt.exb {F : Flt} {a c p : Addr} {b : Int} (h : DtAt N S H F a) (hp : PenAt H c b p) (e : ExB p H H') : DtAt N S H' F a :=
  h.by (fun _ _ h => e _ _ (hp.ne h) h) fun _ _ _ h => e _ _ (hp.ni h) h
end
theorem three_le : 3 ≤ sizeLine := by rw [sizeLine_eq]; decide
def dB (n : Nat) : Int := 20 * 3 ^ n
theorem dB_succ (n : Nat) : dB (n + 1) = 3 * dB n := by unfold dB; rw [Int.pow_succ]; omega
theorem dB_ge : ∀ n, 20 ≤ dB n
  | 0 => by decide
  | n + 1 => by have := dB_ge n; rw [dB_succ]; omega
def spDT (n : Nat) : Sp := fun vs H Q _ => ∃ (p c nl ml : Addr) (b m1 m2 : Int) (N : List Str), vs = [.ref p, .ref nl, .ref ml, .int (n : Nat)] ∧ PenAt H c b p ∧ H nl = some (.lst (N.map V.str)) ∧ N ∈ Ns ∧ H ml = some (.lst [.int m1, .int m2]) ∧ b + dB n < 800000 ∧
  ∀ t F H', ExB p H H' → PenAt H' c (b + dB n) p → DtAt N [m1, m2] H' F t → F.ht ≤ n → F.leaves ≤ 2 ^ n → Q (.ref t) H'
section
variable {P : Program} {w : World} {K : PySem.W.Frag} {mg : Str → Option Value} {base : Heap} {A : Df → Addr} {B Z : Cl → Addr}
theorem sc_dt : FnScope ["_law_pen_here", "_law_names", "_law_marks", "_law_deep", "_law_way", "_law_column", "_law_value", "_law_one", "_law_sides", "_law_mark"] ["_law_pen_here", "_law_names", "_law_marks", "_law_deep"] (defScope (Df.st .dlaw_drawn_test)) := ⟨rfl, rfl, rfl, by decide +kernel, rfl, by decide +kernel, by decide +kernel⟩
theorem ok_dt (T : Txt P K mg A B Z) (n k : Nat) (hk : 3 ≤ k) (IH : FnR P w K mg base CX0 k (A .dlaw_drawn_test) (fun vs H Q E => ∃ m, n = m + 1 ∧ spDT m vs H Q E)) (n1 : n ≤ 5) : FnR P w K mg base CX0 (k + 1) (A .dlaw_drawn_test) (spDT n) := by
  refine (T.d0 .dlaw_drawn_test).fn sc_dt (fun _ _ _ _ _ _ us h => by obtain ⟨a, b, c, d, rfl⟩ := len4 h; rfl) (fun vs H Q E h => by obtain ⟨_, _, _, _, _, _, _, _, rfl, _⟩ := h; rfl) fun cdv Ar outer s H vs Q E hr h => ?_
  obtain ⟨p, c, nl, ml, b, m1, m2, N, rfl, hp, hnl, hN, hml, hb, q⟩ := h
  have nd := sc_dt.nd
  have hr1 : Room 1 _ := hr.mono (j := 1) (by omega)
  have hr2 : Room 2 _ := hr.mono (j := 2) (by omega)
  refine ⟨_, pss_cons (ps_par3 (i := 4) (j := 5) (l := 6) rfl nd rfl rfl rfl (by decide) (by decide) (by decide) rfl rfl rfl
        (pa_cons (pe_fn (ok_draw T) hr1 rfl (T.gD .dlaw_draw rfl) (T.dk .dlaw_draw).kp (pa_cons (pv 0) (pa_cons pe_int pa_nil)))
        (pa_cons (pe_fn (ok_pick T) hr2 rfl (T.gD .dlaw_pick rfl) (T.dk .dlaw_pick).kp (pa_cons (pv 0) (pa_cons (pv 1) pa_nil)))
        (pa_cons (pe_fn (ok_pick T) hr2 rfl (T.gD .dlaw_pick rfl) (T.dk .dlaw_pick).kp (pa_cons (pv 0) (pa_cons (pv 2) pa_nil))) pa_nil))) (by rfl))
    (pss_cons (ps_if (PW.pt (pw_and (pt_cmpR op_gt (pv 3) pe_int (nomark _)) (pw_and1 (pt_cmpR op_lt (pv 4) pe_int (nomark _)))))
      (pss_cons (ps_set (i := 7) nd rfl (.inl rfl) (pe_fn IH hr rfl (T.gD .dlaw_drawn_test rfl) (T.dk .dlaw_drawn_test).kp (pa_cons (pv 0) (pa_cons (pv 1) (pa_cons (pv 2) (pa_cons (pe_op op_sub (pv 3) pe_int) pa_nil))))))
      (pss_cons (ps_if (pt_cmpR op_eq (pv 4) pe_int (nomark _)) (pss_one (ps_ret (pe_tup (pa_cons pe_str (pa_cons (pv 7) pa_nil))))) pss_nil)
      (pss_one (ps_ret (pe_tup (pa_cons (pe_fn (ok_pick T) hr2 rfl (T.gD .dlaw_pick rfl) (T.dk .dlaw_pick).kp (pa_cons (pv 0) (pa_cons (pe_lst (pa_cons pe_str (pa_cons pe_str pa_nil))) pa_nil)))
        (pa_cons (pv 7) (pa_cons (pe_fn IH hr rfl (T.gD .dlaw_drawn_test rfl) (T.dk .dlaw_drawn_test).kp (pa_cons (pv 0) (pa_cons (pv 1) (pa_cons (pv 2) (pa_cons (pe_op op_sub (pv 3) pe_int) pa_nil))))) pa_nil))))))))
      pss_nil)
    (pss_cons (ps_if (pt_cmpR op_eq (pv 4) pe_int (nomark _)) (pss_one (ps_ret (pe_tup (pa_cons pe_str (pa_cons (pv 5) pa_nil))))) pss_nil)
    (pss_cons (ps_if (pt_cmpR op_eq (pv 4) pe_int (nomark _)) (pss_one (ps_ret (pe_tup (pa_cons pe_str (pa_cons (pv 5) (pa_cons
        (pe_callB (cr_sortedSet rfl) rfl (T.blt _ (by decide)) (by decide +kernel) (pa_cons (pe_callTy (cr_setL rfl) rfl (T.blt _ (by decide)) (by decide +kernel) (pa_cons
          (pe_lc (own := [("_law_mark", 9)]) (g := gName 9) (tt := tYes) rfl nd (pi_list (pe_slice sl_list (pv 2) po_none (po_some (pe_op op_add pe_int (pe_fn (ok_draw T) hr1 rfl (T.gD .dlaw_draw rfl) (T.dk .dlaw_draw).kp (pa_cons (pv 0) (pa_cons (pe_callB call_len_seq rfl (T.blt _ (by decide)) PySem.boot_len (pa_cons (pv 2) pa_nil)) pa_nil)))))))
            (blkOk_by (N := ["_law_pen_here", "_law_names", "_law_marks", "_law_deep", "_law_way", "_law_column", "_law_value", "_law_one", "_law_sides", "_law_mark"]) (sc := defScope (Df.st .dlaw_drawn_test)) (by decide +kernel))
            (fun _ _ _ _ _ => pg_name (i := 9) nd rfl (.inl rfl)) (fun _ _ _ _ _ => pts_nil) (fun _ _ _ _ _ => pe_callTy call_int1 rfl (T.blt _ (by decide)) (by decide +kernel) (pa_cons (pv 9) pa_nil))) pa_nil)) pa_nil)) pa_nil)))))) pss_nil)
    (pss_cons (ps_if (pt_cmpR op_eq (pv 4) pe_int (nomark _)) (pss_one (ps_ret (pe_tup (pa_cons (pe_fn (ok_pick T) hr2 rfl (T.gD .dlaw_pick rfl) (T.dk .dlaw_pick).kp (pa_cons (pv 0) (pa_cons (pe_lst (pa_cons pe_str (pa_cons pe_str (pa_cons pe_str pa_nil)))) pa_nil))) pa_nil)))) pss_nil)
    (pss_cons (ps_set (i := 8) nd rfl (.inl rfl) (pe_fn (ok_pick T) hr2 rfl (T.gD .dlaw_pick rfl) (T.dk .dlaw_pick).kp (pa_cons (pv 0) (pa_cons (pe_lst (pa_cons (pe_tup (pa_cons (pv 5) (pa_cons (pv 6) pa_nil))) (pa_cons (pe_tup (pa_cons (pv 6) (pa_cons (pv 5) pa_nil)))
        (pa_cons (pe_tup (pa_cons (pv 5) (pa_cons (pe_fn (ok_pick T) hr2 rfl (T.gD .dlaw_pick rfl) (T.dk .dlaw_pick).kp (pa_cons (pv 0) (pa_cons (pv 1) pa_nil))) pa_nil))) pa_nil)))) pa_nil))))
    (pss_one (ps_ret (pe_tup (pa_cons (pe_fn (ok_pick T) hr2 rfl (T.gD .dlaw_pick rfl) (T.dk .dlaw_pick).kp (pa_cons (pv 0) (pa_cons (pe_lst (pa_cons pe_str (pa_cons pe_str (pa_cons pe_str pa_nil)))) pa_nil)))
      (pa_cons (pe_ix ix_tup (pv 8) pe_int (fun _ _ => rfl)) (pa_cons (pe_ix ix_tup (pv 8) pe_int (fun _ _ => rfl)) pa_nil))))))))))), ?_⟩
  have dB0 : (20 : Int) ≤ dB n := dB_ge n
  have nlp : nl ≠ p := by
    have hne : ∃ v vs, N = v :: vs := by
      rcases Ns_len hN with e | e <;> (cases N with
        | nil => cases e
        | cons v vs => exact ⟨v, vs, rfl⟩)
    obtain ⟨v, vs, rfl⟩ := hne
    exact hp.ns hnl
  have mlp : ml ≠ p := hp.ni hml
  have N0 : 0 < (N.map V.str).length ∧ (N.map V.str).length < 1000 := by rw [List.length_map]; rcases Ns_len hN with e | e <;> omega
  refine ⟨_, rfl, p, c, 10, b, rfl, hp, by decide, by decide, by omega, fun way H1 e1 hp1 w0 w1 => ?_⟩
  refine ⟨_, rfl, _, rfl, p, nl, c, _, _, rfl, hp1, SqL.of (e1 _ _ nlp hnl), nlp, N0.1, N0.2, by omega, fun v2 H2 e2 hp2 hv => ?_⟩
  obtain ⟨col, hcol, rfl⟩ := List.mem_map.mp hv
  have e12 := e1.trans e2
  refine ⟨_, rfl, _, rfl, p, ml, c, _, [.int m1, .int m2], rfl, hp2, SqL.of (e12 _ _ mlp hml), mlp, (by show 0 < 2; decide), (by show 2 < 1000; decide), by omega, fun v3 H3 e3 hp3 hv3 => ?_⟩
  obtain ⟨mv, hmv, rfl⟩ : ∃ mv, mv ∈ [m1, m2] ∧ v3 = .int mv := by
    rcases List.mem_cons.mp hv3 with rfl | hv3
    · exact ⟨m1, by simp, rfl⟩
    · rw [List.mem_singleton.mp hv3]; exact ⟨m2, by simp, rfl⟩
  have E3 := e12.trans e3
  have hnl3 := E3 _ _ nlp hnl
  have hml3 := E3 _ _ mlp hml
  have pw1 : 1 ≤ 2 ^ n := Nat.one_le_two_pow
  refine ⟨_, _, _, rfl, ?_⟩
  refine ⟨_, rfl, (n : Nat), 0, rfl, rfl, decide ((0 : Int) < (n : Nat)), rfl, ?_⟩
  suffices leaf : _ by
    by_cases h1 : (0 : Int) < (n : Nat)
    · rw [decide_eq_true h1]
      refine iteT ⟨_, rfl, way, 4, rfl, rfl, decide (way < 4), rfl, ?_⟩
      by_cases h2 : way < 4
      · rw [decide_eq_true h2]
        clear leaf
        obtain ⟨m, rfl⟩ : ∃ m, n = m + 1 := ⟨n - 1, by omega⟩
        have em : (((m + 1 : Nat) : Int) - 1) = (m : Nat) := by omega
        have dm : dB (m + 1) = 3 * dB m := dB_succ m
        have dm0 := dB_ge m
        have pm : 2 ^ (m + 1) = 2 ^ m + 2 ^ m := by rw [Nat.pow_succ]; omega
        refine iteT ⟨_, rfl, _, rfl, _, rfl, _, rfl, _, 1, rfl, rfl, m, rfl, p, c, nl, ml, _, m1, m2, N, (by show [V.ref p, V.ref nl, V.ref ml, V.int (((m + 1 : Nat) : Int) - 1)] = _; rw [em]), hp3, hnl3, hN, hml3, by omega, fun t F H4 e4 hp4 hF hh hl => ?_⟩
        have E4 := E3.trans e4
        refine ⟨_, rfl, rfl, decide (V.int way = V.int 0), rfl, ?_⟩
        by_cases h3 : V.int way = V.int 0
        · rw [decide_eq_true h3]
          refine iteT ⟨_, rfl, two_le, fun t5 ht5 => ?_⟩
          have n5 : Ex H4 (upd H4 t5 (.tup [.str "not", .ref t])) := Ex.new ht5
          exact q t5 (.turned F) _ (E4.ex n5) ((hp4.ex n5).le (by omega)) ⟨t, upd_same, hF.mono n5⟩ (by show F.ht + 1 ≤ m + 1; omega) (by show F.leaves ≤ 2 ^ (m + 1); omega)
        · rw [decide_eq_false h3]
          refine iteF ⟨_, rfl, two_le, fun s0 hs0 => ?_⟩
          have n5 : Ex H4 (upd H4 s0 (.lst [.str "and", .str "or"])) := Ex.new hs0
          refine ⟨p, s0, c, _, _, rfl, hp4.ex n5, SqL.of upd_same, hp4.nn hs0, by decide, by decide, by omega, fun v6 H6 e6 hp6 hv6 => ?_⟩
          have E6 := (E4.ex n5).trans e6
          have hF6 : DtAt N [m1, m2] H6 F t := (hF.mono n5).exb (hp4.ex n5) e6
          refine ⟨_, rfl, _, rfl, _, rfl, _, rfl, _, rfl, _, 1, rfl, rfl, m, rfl, p, c, nl, ml, _, m1, m2, N, (by show [V.ref p, V.ref nl, V.ref ml, V.int (((m + 1 : Nat) : Int) - 1)] = _; rw [em]), hp6, E6 _ _ nlp hnl, hN, E6 _ _ mlp hml, by omega, fun t7 G H7 e7 hp7 hG hh7 hl7 => ?_⟩
          refine ⟨three_le, fun t8 ht8 => ?_⟩
          have n8 : Ex H7 (upd H7 t8 (.tup [v6, .ref t, .ref t7])) := Ex.new ht8
          have E8 := (E6.trans e7).ex n8
          have hF8 := (hF6.exb hp6 e7).mono n8
          have hG8 := hG.mono n8
          have p8 := (hp7.ex n8)
          have hh8 : max F.ht G.ht + 1 ≤ m + 1 := by omega
          have hl8 : F.leaves + G.leaves ≤ 2 ^ (m + 1) := by omega
          rcases List.mem_cons.mp hv6 with rfl | hv6
          · exact q t8 (.both F G) _ E8 (p8.le (by omega)) ⟨t, t7, upd_same, hF8, hG8⟩ hh8 hl8
          · obtain rfl := List.mem_singleton.mp hv6
            exact q t8 (.either F G) _ E8 (p8.le (by omega)) ⟨t, t7, upd_same, hF8, hG8⟩ hh8 hl8
      · rw [decide_eq_false h2]
        exact iteF leaf
    · rw [decide_eq_false h1]
      exact iteF (iteF leaf)
  refine ⟨_, rfl, rfl, decide (V.int way = V.int 4), rfl, ?_⟩
  by_cases h4 : V.int way = V.int 4
  · rw [decide_eq_true h4]
    refine iteT ⟨_, rfl, two_le, fun t ht => ?_⟩
    have nt : Ex H3 (upd H3 t (.tup [.str "null", .str col])) := Ex.new ht
    exact q t (.missing col) _ (E3.ex nt) ((hp3.ex nt).le (by omega)) ⟨upd_same, hcol⟩ (Nat.zero_le _) pw1
  rw [decide_eq_false h4]
  refine iteF ⟨_, rfl, rfl, decide (V.int way = V.int 5), rfl, ?_⟩
  by_cases h5 : V.int way = V.int 5
  · rw [decide_eq_true h5]
    refine iteT ⟨_, rfl, _, rfl, _, rfl, _, rfl, ml, _, rfl, .inl (SqL.of hml3), p, c, 2, _, rfl, hp3, by decide, by decide, by omega, fun d H4 e4 hp4 d0 d1 => ?_⟩
    have E4 := E3.trans e4
    have hml4 := E4 _ _ mlp hml
    refine ⟨1, d, rfl, rfl, 1 + d, rfl, ml, _, rfl, SqL.of hml4, fun p1 hq1 => ?_⟩
    rw [cut_to (by omega)]
    obtain ⟨ws, hws, hw0, hw2, hwS⟩ : ∃ ws : List Int, ([V.int m1, V.int m2].take (1 + d).toNat) = ws.map V.int ∧ ws ≠ [] ∧ ws.length ≤ 2 ∧ ∀ v, v ∈ ws → v ∈ [m1, m2] := by
      rcases (show d = 0 ∨ d = 1 by omega) with rfl | rfl
      · exact ⟨[m1], rfl, by simp, by simp, by simp⟩
      · exact ⟨[m1, m2], rfl, by simp, by simp, by simp⟩
    rw [hws]
    have n1 : Ex H4 (upd H4 p1 (.lst (ws.map V.int))) := Ex.new hq1
    refine ⟨p1, rfl, ⟨_, SqL.of upd_same⟩, fun D hD => lc_at walk_list (fun H' e => SqL.of (e _ _ upd_same)) hD (by rw [List.length_map]; omega) fInt (fun x H5 hx e5 KK KN k1 k2 => ?_) fun H5 e5 h5' => ?_⟩
    · obtain ⟨k0, _, rfl⟩ := List.mem_map.mp hx
      exact ⟨rfl, _, rfl, .inl ⟨k0, rfl, k1 _ _ (Ex.refl _) rfl⟩⟩
    rw [fm_int] at h5'
    refine ⟨D, ws, rfl, SqL.of h5', by omega, fun s1 cn hs1 hcn => ?_⟩
    have n5 := Ex.new (o := SetO w s1 (fun j => decide (j ∈ ws)) cn) hs1
    refine ⟨s1, _, cn, rfl, upd_same, by omega, fun zs p5 _ mem len hp5 => ?_⟩
    have n6 := Ex.new (o := .lst (zs.map V.int)) hp5
    refine ⟨three_le, fun t ht => ?_⟩
    have n7 := Ex.new (o := .tup [.str "in", .str col, .ref p5]) ht
    have e7 := (((n1.trans e5).trans n5).trans n6).trans n7
    have z0 : zs ≠ [] := fun z => by
      obtain ⟨v, vs, rfl⟩ := List.exists_cons_of_ne_nil hw0
      have := (mem v).mpr (by simp)
      rw [z] at this; cases this
    have zl := List.length_pos_iff.mpr z0
    exact q t (.among col zs) _ (E4.ex e7) ((hp4.ex e7).le (by omega)) ⟨p5, upd_same, n7 _ _ upd_same, hcol, by omega, fun v hv => hwS v (of_decide_eq_true ((mem v).mp hv))⟩ (Nat.zero_le _) pw1
  rw [decide_eq_false h5]
  refine iteF ⟨_, rfl, rfl, decide (V.int way = V.int 6), rfl, ?_⟩
  by_cases h6 : V.int way = V.int 6
  · rw [decide_eq_true h6]
    refine iteT ⟨_, rfl, three_le, fun s0 hs0 => ?_⟩
    have n4 : Ex H3 (upd H3 s0 (.lst [.str "always", .str "always", .str "never"])) := Ex.new hs0
    refine ⟨p, s0, c, _, _, rfl, hp3.ex n4, SqL.of upd_same, hp3.nn hs0, by decide, by decide, by omega, fun v6 H6 e6 hp6 hv6 => ?_⟩
    refine ⟨one_le, fun t ht => ?_⟩
    have nt : Ex H6 (upd H6 t (.tup [v6])) := Ex.new ht
    have E6 := ((E3.ex n4).trans e6).ex nt
    obtain ⟨bb, rfl⟩ : ∃ bb, v6 = .str (fixW bb) := by
      rcases List.mem_cons.mp hv6 with rfl | hv6
      · exact ⟨true, rfl⟩
      rcases List.mem_cons.mp hv6 with rfl | hv6
      · exact ⟨true, rfl⟩
      · rw [List.mem_singleton.mp hv6]; exact ⟨false, rfl⟩
    exact q t (.fixed bb) _ E6 ((hp6.ex nt).le (by omega)) upd_same (Nat.zero_le _) pw1
  rw [decide_eq_false h6]
  refine iteF ⟨_, rfl, _, rfl, _, rfl, two_le, fun t1 ht1 => ⟨_, rfl, _, rfl, two_le, fun t2 ht2 => ⟨_, rfl, _, rfl, _, rfl, ?_⟩⟩⟩
  have n4 : Ex H3 (upd H3 t1 (.tup [.str col, .int mv])) := Ex.new ht1
  have n5 : Ex (upd H3 t1 (.tup [.str col, .int mv])) (upd (upd H3 t1 (.tup [.str col, .int mv])) t2 (.tup [.int mv, .str col])) := Ex.new ht2
  generalize hH5 : upd (upd H3 t1 (.tup [.str col, .int mv])) t2 (.tup [.int mv, .str col]) = H5 at n5 ⊢
  have g1 : H5 t1 = some (.tup [.str col, .int mv]) := n5 _ _ upd_same
  have g2 : H5 t2 = some (.tup [.int mv, .str col]) := by rw [← hH5]; exact upd_same
  have n45 := n4.trans n5
  have hp5 := hp3.ex n45
  refine ⟨p, nl, c, _, _, rfl, hp5, SqL.of (n45 _ _ hnl3), nlp, N0.1, N0.2, by omega, fun v6 H6 e6 hp6 hv6 => ?_⟩
  obtain ⟨col2, hcol2, rfl⟩ := List.mem_map.mp hv6
  refine ⟨two_le, fun t3 ht3 => ⟨three_le, fun s0 hs0 => ?_⟩⟩
  have n7 : Ex H6 (upd H6 t3 (.tup [.str col, .str col2])) := Ex.new ht3
  have n8 : Ex (upd H6 t3 (.tup [.str col, .str col2])) (upd (upd H6 t3 (.tup [.str col, .str col2])) s0 (.lst [.ref t1, .ref t2, .ref t3])) := Ex.new hs0
  have hp8 := (hp6.ex n7).ex n8
  refine ⟨p, s0, c, _, _, rfl, hp8, SqL.of upd_same, (hp6.ex n7).nn hs0, (by show 0 < 3; decide), (by show 3 < 1000; decide), by omega, fun v9 H9 e9 hp9 hv9 => ?_⟩
  have k1 : H9 t1 = some (.tup [.str col, .int mv]) := e9 _ _ (hp5.ne g1) (n8 _ _ (n7 _ _ (e6 _ _ (hp5.ne g1) g1)))
  have k2 : H9 t2 = some (.tup [.int mv, .str col]) := e9 _ _ (hp5.ne g2) (n8 _ _ (n7 _ _ (e6 _ _ (hp5.ne g2) g2)))
  have k3 : H9 t3 = some (.tup [.str col, .str col2]) := e9 _ _ (hp6.nn ht3) (n8 _ _ upd_same)
  obtain ⟨ts, x, y, rfl, hts, hx, hy, hxy⟩ : ∃ ts x y, v9 = .ref ts ∧ H9 ts = some (.tup [sv x, sv y]) ∧ SideOk N [m1, m2] x ∧ SideOk N [m1, m2] y ∧ ((∃ c, x = .col c) ∨ ∃ c, y = .col c) := by
    rcases List.mem_cons.mp hv9 with rfl | hv9
    · exact ⟨t1, .col col, .num mv, rfl, k1, hcol, hmv, .inl ⟨_, rfl⟩⟩
    rcases List.mem_cons.mp hv9 with rfl | hv9
    · exact ⟨t2, .num mv, .col col, rfl, k2, hmv, hcol, .inr ⟨_, rfl⟩⟩
    · rw [List.mem_singleton.mp hv9]
      exact ⟨t3, .col col, .col col2, rfl, k3, hcol, hcol2, .inl ⟨_, rfl⟩⟩
  have E9 := (((E3.ex n45).trans e6).ex (n7.trans n8)).trans e9
  refine ⟨_, rfl, three_le, fun s1 hs1 => ?_⟩
  have n10 : Ex H9 (upd H9 s1 (.lst [.str "<", .str "<=", .str "="])) := Ex.new hs1
  refine ⟨p, s1, c, _, _, rfl, hp9.ex n10, SqL.of upd_same, hp9.nn hs1, by decide, by decide, by omega, fun v11 H11 e11 hp11 hv11 => ?_⟩
  have hts11 : H11 ts = some (.tup [sv x, sv y]) := e11 _ _ (hp9.ne hts) (n10 _ _ hts)
  obtain ⟨o, rfl⟩ : ∃ o, v11 = .str (opW o) := by
    rcases List.mem_cons.mp hv11 with rfl | hv11
    · exact ⟨.lt, rfl⟩
    rcases List.mem_cons.mp hv11 with rfl | hv11
    · exact ⟨.le, rfl⟩
    · rw [List.mem_singleton.mp hv11]; exact ⟨.eq, rfl⟩
  refine ⟨_, rfl, ts, _, 0, _, rfl, rfl, SqT.of hts11, rfl, _, rfl, ts, _, 1, _, rfl, rfl, SqT.of hts11, rfl, three_le, fun t ht => ?_⟩
  have nt : Ex H11 (upd H11 t (.tup [.str (opW o), sv x, sv y])) := Ex.new ht
  exact q t (.cmp o x y) _ (((E9.ex n10).trans e11).ex nt) ((hp11.ex nt).le (by omega)) ⟨upd_same, hx, hy, hxy⟩ (Nat.zero_le _) pw1
theorem ok_dt0 (T : Txt P K mg A B Z) : FnR P w K mg base CX0 4 (A .dlaw_drawn_test) (spDT 0) :=
  ok_dt T 0 3 (by decide) (fun A outer s H us vs Q E hr e0 r h => by obtain ⟨m, h, _⟩ := h; cases h) (by decide)
theorem ok_dt1 (T : Txt P K mg A B Z) : FnR P w K mg base CX0 5 (A .dlaw_drawn_test) (spDT 1) :=
  ok_dt T 1 4 (by decide) ((ok_dt0 T).imp fun vs H Q E h => by
    obtain ⟨m, hm, h⟩ := h
    obtain rfl : m = 0 := by omega
    exact h) (by decide)
end
end Hs
set_option Elab.async false
set_option linter.all false
set_option maxRecDepth 100000
set_option maxHeartbeats 4000000
/-! The law's filters of drawn tests. -/
namespace Hs
open PySem PySem.Spec PyProof.Rows L2
section
variable {P : Program} {w : World} {K : PySem.W.Frag} {mg : Str → Option Value} {base : Heap} {A : Df → Addr} {B Z : Cl → Addr}
def spTe (B : Cl → Addr) (n : Nat) : Sp := fun vs H Q _ => ∃ (t : Addr) (N : List Str) (S : List Int) (F : Flt), vs = [.ref t] ∧ DtAt N S H F t ∧ N ∈ Ns ∧ S.length ≤ 4 ∧ F.ht ≤ n ∧ F.leaves ≤ 8 ∧ ∀ x H', Ex H H' → FltAt B N S H' F x → Q (.ref x) H'
theorem inv_leaf {f : Flt} (h : f.ht = 0) : invF f = .turned f := by
  cases f <;> first | rfl | (exact absurd h (by show ¬ _ + 1 = 0; omega))
theorem FltAt.ins {N : List Str} {S : List Int} {H : Hp} {F : Flt} {p : Addr} (h : FltAt B N S H F p) : ∃ dx fs, H p = some (.ins (B F.cl) dx fs) := by
  obtain ⟨dx, _, _, _, _, _, h1, _⟩ := h
  exact ⟨dx, _, h1⟩
theorem sc_te : FnScope ["_law_test_so", "_law_word", "_law_some", "_law_one", "_law_other"] ["_law_test_so"] (defScope (Df.st .dlaw_test)) := ⟨rfl, rfl, rfl, by decide +kernel, rfl, by decide +kernel, by decide +kernel⟩
theorem in_seq2 {x a b : Str} : inV (.str x) [V.str a, V.str b] = decide (x = a ∨ x = b) := by
  have := inV_str (c := x) (N := [a, b])
  rw [show [V.str a, V.str b] = [a, b].map V.str from rfl, this]
  simp
theorem ok_te (T : Txt P K mg A B Z) (n k : Nat) (hn : n ≤ 1) (hk : 6 ≤ k) (IH : FnR P w K mg base CX0 k (A .dlaw_test) (fun vs H Q E => ∃ m, n = m + 1 ∧ spTe B m vs H Q E)) : FnR P w K mg base CX0 (k + 1) (A .dlaw_test) (spTe B n) := by
  refine (T.d0 .dlaw_test).fn sc_te (fun _ _ _ _ _ _ us h => by obtain ⟨a, rfl⟩ := len1 h; rfl) (fun vs H Q E h => by obtain ⟨_, _, _, _, rfl, _⟩ := h; rfl) fun cdv Ar outer s H vs Q E hr h => ?_
  obtain ⟨t, N, S, F, rfl, hF, hN, sl, fh, fl, q⟩ := h
  have nd := sc_te.nd
  have hr4 : Room (3 + 1) _ := hr.mono (j := 4) (by omega)
  have hr5 : Room (4 + 1) _ := hr.mono (j := 5) (by omega)
  have hr6 : Room (0 + 6) _ := hr.mono (j := 6) (by omega)
  have mA := T.mkC .cAlways (d := .dFixed_init) rfl
  have mN := T.mkC .cNever (d := .dFixed_init) rfl
  have mM := T.mkC .cMissing (d := .dMissing_init) rfl
  have mI := T.mkC .cAmong (d := .dAmong_init) rfl
  have mL := T.mkC .cLess (d := .dCompared_init) rfl
  have mE := T.mkC .cAtMost (d := .dCompared_init) rfl
  have mS := T.mkC .cSame (d := .dCompared_init) rfl
  refine ⟨_, pss_cons (ps_set (i := 1) nd rfl (.inl rfl) (pe_ix ix_tup (pv 0) pe_int (fun _ _ => rfl)))
    (pss_cons (ps_if (pt_cmpR op_in_seq (pv 1) (pe_tup (pa_cons pe_str (pa_cons pe_str pa_nil))) (by rfl)) (pss_one (ps_ret (pe_ifExp (pt_cmpR op_eq (pv 1) pe_str (nomark _)) (pe_mk0 mA (ok_Xi T) hr4 rfl (T.gC .cAlways)) (pe_mk0 mN (ok_Xi T) hr4 rfl (T.gC .cNever))))) pss_nil)
    (pss_cons (ps_if (pt_cmpR op_eq (pv 1) pe_str (nomark _)) (pss_one (ps_ret (pe_mk mM (ok_Mi T) hr5 rfl (T.gC .cMissing) (pa_cons (pe_ix ix_tup (pv 0) pe_int (fun _ _ => rfl)) pa_nil)))) pss_nil)
    (pss_cons (ps_if (pt_cmpR op_eq (pv 1) pe_str (nomark _))
      (pss_cons (ps_set (i := 2) nd rfl (.inl rfl) (pe_ix ix_tup (pv 0) pe_int (fun _ _ => rfl)))
      (pss_cons (ps_if (pt_cmpR op_lt (pe_callB call_len_seq rfl (T.blt _ (by decide)) PySem.boot_len (pa_cons (pv 2) pa_nil)) pe_int (nomark _))
        (pss_one (ps_ret (pe_ifExp (pt_cmpR op_eq (pe_callB call_len_seq rfl (T.blt _ (by decide)) PySem.boot_len (pa_cons (pv 2) pa_nil)) pe_int (nomark _))
          (pe_mk mI (ok_Ai T) hr5 rfl (T.gC .cAmong) (pa_cons (pe_ix ix_tup (pv 0) pe_int (fun _ _ => rfl)) (pa_cons (pe_ix ix_list (pv 2) pe_int (fun _ _ => rfl)) pa_nil)))
          (pe_mk mI (ok_Ai T) hr5 rfl (T.gC .cAmong) (pa_cons (pe_ix ix_tup (pv 0) pe_int (fun _ _ => rfl)) (pa_cons (pe_ix ix_list (pv 2) pe_int (fun _ _ => rfl)) (pa_cons (pe_ix ix_list (pv 2) pe_int (fun _ _ => rfl)) pa_nil))))))) pss_nil)
      pss_never)) pss_nil)
    (pss_cons (ps_if (pt_cmpR op_eq (pv 1) pe_str (nomark _)) (pss_one (ps_ret (pe_un (un_own (inv_any T 0) hr5) (pe_fn IH hr rfl (T.gD .dlaw_test rfl) (T.dk .dlaw_test).kp (pa_cons (pe_ix ix_tup (pv 0) pe_int (fun _ _ => rfl)) pa_nil))))) pss_nil)
    (pss_cons (ps_if (pt_cmpR op_eq (pv 1) pe_str (nomark _)) (pss_one (ps_ret (pe_op (op_own2 (op := .BitAnd) (SP := fun _ => spJop B 0 true) (fun C C' g => and_any T 0 C C' g) hr6)
        (pe_fn IH hr rfl (T.gD .dlaw_test rfl) (T.dk .dlaw_test).kp (pa_cons (pe_ix ix_tup (pv 0) pe_int (fun _ _ => rfl)) pa_nil)) (pe_fn IH hr rfl (T.gD .dlaw_test rfl) (T.dk .dlaw_test).kp (pa_cons (pe_ix ix_tup (pv 0) pe_int (fun _ _ => rfl)) pa_nil))))) pss_nil)
    (pss_cons (ps_if (pt_cmpR op_eq (pv 1) pe_str (nomark _)) (pss_one (ps_ret (pe_op (op_own2 (op := .BitOr) (SP := fun _ => spJop B 0 false) (fun C C' g => or_any T 0 C C' g) hr6)
        (pe_fn IH hr rfl (T.gD .dlaw_test rfl) (T.dk .dlaw_test).kp (pa_cons (pe_ix ix_tup (pv 0) pe_int (fun _ _ => rfl)) pa_nil)) (pe_fn IH hr rfl (T.gD .dlaw_test rfl) (T.dk .dlaw_test).kp (pa_cons (pe_ix ix_tup (pv 0) pe_int (fun _ _ => rfl)) pa_nil))))) pss_nil)
    (pss_cons (ps_par (i := 3) (j := 4) rfl nd rfl rfl (by decide) rfl rfl (pa_cons (pe_ix ix_tup (pv 0) pe_int (fun _ _ => rfl)) (pa_cons (pe_ix ix_tup (pv 0) pe_int (fun _ _ => rfl)) pa_nil)) (by rfl))
    (pss_one (ps_ret (pe_ifExp (pt_cmpR op_eq (pv 1) pe_str (nomark _)) (pe_mk mL (ok_Ci T) hr4 rfl (T.gC .cLess) (pa_cons (pv 3) (pa_cons (pv 4) pa_nil)))
      (pe_ifExp (pt_cmpR op_eq (pv 1) pe_str (nomark _)) (pe_mk mE (ok_Ci T) hr4 rfl (T.gC .cAtMost) (pa_cons (pv 3) (pa_cons (pv 4) pa_nil))) (pe_mk mS (ok_Ci T) hr4 rfl (T.gC .cSame) (pa_cons (pv 3) (pa_cons (pv 4) pa_nil)))))))))))))), ?_⟩
  have fixT : ∀ (b : Bool), F = .fixed b → ∀ p1, H p1 = none → ∀ x dx, upd H p1 (.tup [.str "always", .str "never"]) x = none → upd H p1 (.tup [.str "always", .str "never"]) dx = none → dx ≠ x →
      spXInit B [.ref x] (upd (upd (upd H p1 (.tup [.str "always", .str "never"])) dx (.own x)) x (.ins (B (Flt.fixed b).cl) dx [])) (fun v H2 => v = .non ∧ Q (.ref x) H2) E0 := fun b e p1 hp1 x dx hx hd _ =>
    ⟨x, dx, b, rfl, upd_same, fun H' eb hX => ⟨rfl, q x H' ((Ex.new hp1).trans (mk_ex hx hd eb)) (by rw [e]; exact hX N S)⟩⟩
  cases F with
  | fixed b =>
    cases b with
    | true => exact ⟨_, rfl, t, _, 0, _, rfl, rfl, SqT.of hF, rfl, _, rfl, two_le, fun p1 hp1 => ⟨p1, _, rfl, .inr (SqT.of upd_same), rfl, rfl, true, (by decide +kernel), iteT ⟨_, rfl, rfl, true, (by decide +kernel), iteT (fixT true rfl p1 hp1)⟩⟩⟩
    | false => exact ⟨_, rfl, t, _, 0, _, rfl, rfl, SqT.of hF, rfl, _, rfl, two_le, fun p1 hp1 => ⟨p1, _, rfl, .inr (SqT.of upd_same), rfl, rfl, true, (by decide +kernel), iteT ⟨_, rfl, rfl, false, (by decide +kernel), iteF (fixT false rfl p1 hp1)⟩⟩⟩
  | missing c =>
    obtain ⟨h1, hc⟩ := hF
    refine ⟨_, rfl, t, _, 0, _, rfl, rfl, SqT.of h1, rfl, _, rfl, two_le, fun p1 hp1 => ⟨p1, _, rfl, .inr (SqT.of upd_same), rfl, rfl, false, (by decide +kernel), iteF ⟨_, rfl, rfl, true, (by decide +kernel), iteT ?_⟩⟩⟩
    have e := Ex.new (o := .tup [.str "always", .str "never"]) hp1
    exact ⟨_, rfl, t, _, 1, _, rfl, rfl, SqT.of (e _ _ h1), rfl, fun x dx hx hd _ => ⟨x, dx, c, N, S, rfl, upd_same, hN, hc, fun H' eb hX => ⟨rfl, q x H' (e.trans (mk_ex hx hd eb)) hX⟩⟩⟩
  | among c vs =>
    obtain ⟨l, h1, h2, hc, hl, hS⟩ := hF
    refine ⟨_, rfl, t, _, 0, _, rfl, rfl, SqT.of h1, rfl, _, rfl, two_le, fun p1 hp1 => ⟨p1, _, rfl, .inr (SqT.of upd_same), rfl, rfl, false, (by decide +kernel), iteF ⟨_, rfl, rfl, false, (by decide +kernel), iteF ⟨_, rfl, rfl, true, (by decide +kernel), iteT ?_⟩⟩⟩⟩
    have e := Ex.new (o := .tup [.str "always", .str "never"]) hp1
    have h1 := e _ _ h1
    have h2 := e _ _ h2
    refine ⟨_, rfl, t, _, 2, _, rfl, rfl, SqT.of h1, rfl, _, rfl, l, _, rfl, .inl (SqL.of h2), ?_⟩
    have fin : ∀ ks : List Int, ks ≠ [] → ks.length < 64 → (∀ k, k ∈ ks ↔ k ∈ vs) → ∀ x dx, upd H p1 (.tup [.str "always", .str "never"]) x = none → upd H p1 (.tup [.str "always", .str "never"]) dx = none → dx ≠ x →
        spAInit B (.ref x :: .str c :: ks.map V.int) (upd (upd (upd H p1 (.tup [.str "always", .str "never"])) dx (.own x)) x (.ins (B .cAmong) dx [])) (fun v H2 => v = .non ∧ Q (.ref x) H2) E0 := fun ks k0 k1 k2 x dx hx hd _ =>
      ⟨x, dx, c, ks, N, S, rfl, upd_same, hN, hc, k0, k1, sl, fun k hk => hS k ((k2 k).mp hk), fun H' eb hX => ⟨rfl, q x H' (e.trans (mk_ex hx hd eb)) (among_swap hX k2)⟩⟩
    rcases hl with hl | hl
    · obtain ⟨v, rfl⟩ := len1 hl
      refine ⟨_, 3, rfl, rfl, true, rfl, iteT ⟨_, rfl, l, _, rfl, .inl (SqL.of h2), rfl, true, rfl, iteT ?_⟩⟩
      exact ⟨_, rfl, t, _, 1, _, rfl, rfl, SqT.of h1, rfl, _, rfl, l, _, 0, _, rfl, rfl, SqL.of h2, rfl, fin [v] (by simp) (by show 1 < 64; decide) fun k => Iff.rfl⟩
    · obtain ⟨v, v', rfl⟩ := len2 hl
      refine ⟨_, 3, rfl, rfl, true, rfl, iteT ⟨_, rfl, l, _, rfl, .inl (SqL.of h2), rfl, false, rfl, iteF ?_⟩⟩
      exact ⟨_, rfl, t, _, 1, _, rfl, rfl, SqT.of h1, rfl, _, rfl, l, _, 1, _, rfl, rfl, SqL.of h2, rfl, _, rfl, l, _, 0, _, rfl, rfl, SqL.of h2, rfl, fin [v', v] (by simp) (by show 2 < 64; decide) fun k => by simp [or_comm]⟩
  | turned f =>
    obtain ⟨b, h1, h2⟩ := hF
    have fh : f.ht + 1 ≤ n := fh
    have f0 : f.ht = 0 := by omega
    have fl : f.leaves ≤ 8 := fl
    refine ⟨_, rfl, t, _, 0, _, rfl, rfl, SqT.of h1, rfl, _, rfl, two_le, fun p1 hp1 => ⟨p1, _, rfl, .inr (SqT.of upd_same), rfl, rfl, false, (by decide +kernel), iteF ⟨_, rfl, rfl, false, (by decide +kernel), iteF ⟨_, rfl, rfl, false, (by decide +kernel), iteF ⟨_, rfl, rfl, true, (by decide +kernel), iteT ?_⟩⟩⟩⟩⟩
    have e := Ex.new (o := .tup [.str "always", .str "never"]) hp1
    refine ⟨_, rfl, t, _, 1, _, rfl, rfl, SqT.of (e _ _ h1), rfl, 0, by omega, b, N, S, f, rfl, h2.mono e, hN, sl, by omega, fl, fun x1 H1 e1 hx1 => ?_⟩
    obtain ⟨dx, fs, hx⟩ := hx1.ins
    exact ⟨x1, _, dx, fs, rfl, hx, ⟨f.cl, rfl, flt_cl f⟩, f, x1, [], N, S, rfl, hx1, by omega, rfl, rfl, hN, sl, fun y H2 e2 hy => q y H2 ((e.trans e1).trans e2) (by rw [← inv_leaf f0]; exact hy)⟩
  | both f g =>
    obtain ⟨b, b', h1, h2, h3⟩ := hF
    have fh : max f.ht g.ht + 1 ≤ n := fh
    have fl : f.leaves + g.leaves ≤ 8 := fl
    refine ⟨_, rfl, t, _, 0, _, rfl, rfl, SqT.of h1, rfl, _, rfl, two_le, fun p1 hp1 => ⟨p1, _, rfl, .inr (SqT.of upd_same), rfl, rfl, false, (by decide +kernel), iteF ⟨_, rfl, rfl, false, (by decide +kernel), iteF ⟨_, rfl, rfl, false, (by decide +kernel), iteF ⟨_, rfl, rfl, false, (by decide +kernel), iteF ⟨_, rfl, rfl, true, (by decide +kernel), iteT ?_⟩⟩⟩⟩⟩⟩
    have e := Ex.new (o := .tup [.str "always", .str "never"]) hp1
    refine ⟨_, rfl, t, _, 1, _, rfl, rfl, SqT.of (e _ _ h1), rfl, 0, by omega, b, N, S, f, rfl, h2.mono e, hN, sl, by omega, by omega, fun x1 H1 e1 hx1 => ?_⟩
    have E1 := e.trans e1
    refine ⟨_, rfl, t, _, 2, _, rfl, rfl, SqT.of (E1 _ _ h1), rfl, 0, by omega, b', N, S, g, rfl, h3.mono E1, hN, sl, by omega, by omega, fun x2 H2 e2 hx2 => ?_⟩
    have hx1 := hx1.mono e2
    obtain ⟨dx, fs, hx⟩ := hx1.ins
    obtain ⟨dy, gs, hy⟩ := hx2.ins
    exact ⟨x1, _, dx, fs, x2, _, dy, gs, rfl, rfl, hx, hy, ⟨⟨f.cl, rfl, flt_cl f⟩, g.cl, rfl, flt_cl g⟩, x1, x2, N, S, f, g, rfl, hN, sl, hx1, hx2, by omega, by omega, fl, fun y H3 e3 hF => q y H3 ((E1.trans e2).trans e3) hF⟩
  | either f g =>
    obtain ⟨b, b', h1, h2, h3⟩ := hF
    have fh : max f.ht g.ht + 1 ≤ n := fh
    have fl : f.leaves + g.leaves ≤ 8 := fl
    refine ⟨_, rfl, t, _, 0, _, rfl, rfl, SqT.of h1, rfl, _, rfl, two_le, fun p1 hp1 => ⟨p1, _, rfl, .inr (SqT.of upd_same), rfl, rfl, false, (by decide +kernel), iteF ⟨_, rfl, rfl, false, (by decide +kernel), iteF ⟨_, rfl, rfl, false, (by decide +kernel), iteF ⟨_, rfl, rfl, false, (by decide +kernel), iteF ⟨_, rfl, rfl, false, (by decide +kernel), iteF ⟨_, rfl, rfl, true, (by decide +kernel), iteT ?_⟩⟩⟩⟩⟩⟩⟩
    have e := Ex.new (o := .tup [.str "always", .str "never"]) hp1
    refine ⟨_, rfl, t, _, 1, _, rfl, rfl, SqT.of (e _ _ h1), rfl, 0, by omega, b, N, S, f, rfl, h2.mono e, hN, sl, by omega, by omega, fun x1 H1 e1 hx1 => ?_⟩
    have E1 := e.trans e1
    refine ⟨_, rfl, t, _, 2, _, rfl, rfl, SqT.of (E1 _ _ h1), rfl, 0, by omega, b', N, S, g, rfl, h3.mono E1, hN, sl, by omega, by omega, fun x2 H2 e2 hx2 => ?_⟩
    have hx1 := hx1.mono e2
    obtain ⟨dx, fs, hx⟩ := hx1.ins
    obtain ⟨dy, gs, hy⟩ := hx2.ins
    exact ⟨x1, _, dx, fs, x2, _, dy, gs, rfl, rfl, hx, hy, ⟨⟨f.cl, rfl, flt_cl f⟩, g.cl, rfl, flt_cl g⟩, x1, x2, N, S, f, g, rfl, hN, sl, hx1, hx2, by omega, by omega, fl, fun y H3 e3 hF => q y H3 ((E1.trans e2).trans e3) hF⟩
  | cmp o x y =>
    obtain ⟨h1, hx, hy, hxy⟩ := hF
    have w0 : inV (.str (opW o)) [V.str "always", V.str "never"] = false ∧ decide (V.str (opW o) = V.str "null") = false ∧ decide (V.str (opW o) = V.str "in") = false ∧ decide (V.str (opW o) = V.str "not") = false ∧ decide (V.str (opW o) = V.str "and") = false ∧ decide (V.str (opW o) = V.str "or") = false := by cases o <;> decide +kernel
    obtain ⟨w1, w2, w3, w4, w5, w6⟩ := w0
    refine ⟨_, rfl, t, _, 0, _, rfl, rfl, SqT.of h1, rfl, _, rfl, two_le, fun p1 hp1 => ⟨p1, _, rfl, .inr (SqT.of upd_same), rfl, rfl, false, congrArg V.bl w1, iteF ⟨_, rfl, rfl, false, congrArg V.bl w2, iteF ⟨_, rfl, rfl, false, congrArg V.bl w3, iteF ⟨_, rfl, rfl, false, congrArg V.bl w4, iteF ⟨_, rfl, rfl, false, congrArg V.bl w5, iteF ⟨_, rfl, rfl, false, congrArg V.bl w6, iteF ?_⟩⟩⟩⟩⟩⟩⟩
    have e := Ex.new (o := .tup [.str "always", .str "never"]) hp1
    have h1 := e _ _ h1
    refine ⟨_, rfl, t, _, 1, _, rfl, rfl, SqT.of h1, rfl, _, rfl, t, _, 2, _, rfl, rfl, SqT.of h1, rfl, _, _, rfl, ?_⟩
    have fin : ∀ z dx, upd H p1 (.tup [.str "always", .str "never"]) z = none → upd H p1 (.tup [.str "always", .str "never"]) dx = none → dx ≠ z →
        spCInit B [.ref z, sv x, sv y] (upd (upd (upd H p1 (.tup [.str "always", .str "never"])) dx (.own z)) z (.ins (B (opC o)) dx [])) (fun v H2 => v = .non ∧ Q (.ref z) H2) E0 := fun z dx hz hd _ =>
      ⟨z, dx, o, x, y, N, S, rfl, upd_same, hN, hx, hy, hxy, fun H' eb hX => ⟨rfl, q z H' (e.trans (mk_ex hz hd eb)) hX⟩⟩
    cases o with
    | lt => exact ⟨_, rfl, rfl, true, (by decide +kernel), iteT ⟨_, rfl, _, rfl, fin⟩⟩
    | le => exact ⟨_, rfl, rfl, false, (by decide +kernel), iteF ⟨_, rfl, rfl, true, (by decide +kernel), iteT ⟨_, rfl, _, rfl, fin⟩⟩⟩
    | eq => exact ⟨_, rfl, rfl, false, (by decide +kernel), iteF ⟨_, rfl, rfl, false, (by decide +kernel), iteF ⟨_, rfl, _, rfl, fin⟩⟩⟩
theorem ok_te0 (T : Txt P K mg A B Z) : FnR P w K mg base CX0 7 (A .dlaw_test) (spTe B 0) :=
  ok_te T 0 6 (by decide) (by decide) (fun A outer s H us vs Q E hr e0 r h => by obtain ⟨m, h, _⟩ := h; cases h)
theorem ok_te1 (T : Txt P K mg A B Z) : FnR P w K mg base CX0 8 (A .dlaw_test) (spTe B 1) :=
  ok_te T 1 7 (by decide) (by decide) ((ok_te0 T).imp fun vs H Q E h => by
    obtain ⟨m, hm, h⟩ := h
    obtain rfl : m = 0 := by omega
    exact h)
end
end Hs
set_option Elab.async false
set_option linter.all false
set_option maxRecDepth 100000
set_option maxHeartbeats 4000000
/-! A made question, asked at once; the questions about rows. -/
namespace Hs
open PySem PySem.Spec PyProof.Rows L2
section
variable {P : Program} {w : World} {K : PySem.W.Frag} {mg : Str → Option Value} {base : Heap} {A : Df → Addr} {B Z : Cl → Addr}
/-- what is asked of the receiver of on -/
def onK (P : Program) (w : World) (B : Cl → Addr) (t : TA) (σ : L2.St) (Q : VK) : VK := fun u H1 => ∃ a C dx fs, u = .ref a ∧ H1 a = some (.ins C dx fs) ∧ GoodQ B C ∧ fs.lookup ("on" : Str) = none ∧ t σ H1 fun vs H2 => spOn P w B 3 (u :: vs) H2 Q E0
theorem tabs_one (l : Addr) (T : Tab) : tabs [(l, T)] = T := by simp [tabs]
/-- the table of a question: names at a, filter at f, contents at l -/
structure Ask (P : Program) (w : World) (B : Cl → Addr) (N : List Str) (S : List Int) (F : Flt) (T : Tab) (H : Hp) (a l : Addr) : Prop where
  nm : N ∈ Ns
  at_ : H a = some (.tup (N.map V.str))
  lot : LotsAt P w B N.length H T l
  num : T.length ≤ 15
  ht : F.ht ≤ 3
theorem Ask.mono {N : List Str} {S : List Int} {F : Flt} {T : Tab} {H H' : Hp} {a l : Addr} (h : Ask P w B N S F T H a l) (e : Ex H H') : Ask P w B N S F T H' a l := ⟨h.nm, e _ _ h.at_, h.lot.mono e, h.num, h.ht⟩
theorem on_at {k : Kd} {N : List Str} {S : List Int} {F : Flt} {T : Tab} {H : Hp} {a l x : Addr} {σ : L2.St} {i j : Nat} {Q : VK} (h : Ask P w B N S F T H a l) (hq : QAt B N S H k F x) (hk : ∀ c, k.asked = some c → c ∈ N) (ok : KdOk k)
    (hi : σ[i]? = some (some (.ref a))) (hj : σ[j]? = some (some (.ref l))) (q : ∀ v H', Ex H H' → Ans k (ms F N k.asked T) v H' → Q v H') : onK P w B (tCons (tVar i) (tCons (tVar j) tNil)) σ Q (.ref x) H := by
  have hq0 := hq
  obtain ⟨dx, f, h1, h2⟩ := hq
  refine ⟨x, _, dx, _, rfl, h1, ⟨k, rfl⟩, rfl, _, hi, _, hj, x, a, N, S, k, F, [(l, T)], rfl, h.nm, hq0, hk, ok, h.ht, h.at_, fun y hy => by rw [List.mem_singleton.mp hy]; exact h.lot, (by show 1 ≤ 3; decide), by rw [tabs_one]; exact h.num, fun v H' e hA => q v H' e ?_⟩
  rw [tabs_one] at hA
  exact hA
theorem on_made {k : Kd} {N : List Str} {S : List Int} {F : Flt} {T : Tab} {H : Hp} {a l f : Addr} {σ : L2.St} {i j : Nat} {Q : VK} {sp : Sp} {vs : List V} (h : Ask P w B N S F T H a l) (hF : FltAt B N S H F f) (hsp : ∀ x H Q, QI B k x f H Q → sp (.ref x :: vs) H Q E0)
    (hk : ∀ c, k.asked = some c → c ∈ N) (ok : KdOk k) (hi : σ[i]? = some (some (.ref a))) (hj : σ[j]? = some (some (.ref l))) (q : ∀ v H', Ex H H' → Ans k (ms F N k.asked T) v H' → Q v H') (x dx : Addr) (hx : H x = none) (hd : H dx = none) (hne : dx ≠ x) :
    sp (.ref x :: vs) (upd (upd H dx (.own x)) x (.ins (B k.cl) dx [])) (fun v H2 => v = .non ∧ onK P w B (tCons (tVar i) (tCons (tVar j) tNil)) σ Q (.ref x) H2) E0 :=
  hsp x _ _ (qi_mk (Q := onK P w B (tCons (tVar i) (tCons (tVar j) tNil)) σ Q) hF hx hd fun x H1 e1 hq => on_at (h.mono e1) hq hk ok hi hj fun v H' e hA => q v H' (e1.trans e) hA)
theorem ok0 : ∀ {k : Kd}, (∀ m c, k ≠ .top m c) → KdOk k := fun h m c e => absurd e (h m c)
theorem inv_ht (F : Flt) : (invF F).ht ≤ F.ht + 1 := by
  cases F with
  | turned f => show f.ht ≤ f.ht + 1 + 1; omega
  | _ => exact Nat.le_refl _
theorem inv_opp (F : Flt) (r : Env') : ¬ (F.eval r = some true ∧ (invF F).eval r = some true) := by
  cases F with
  | turned f => exact fun h => turned_opp f r ⟨h.2, h.1⟩
  | _ => exact turned_opp _ r
/-! ### the questions about rows -/
def spRR (P : Program) (w : World) (B : Cl → Addr) : Sp := fun vs H Q _ => ∃ (p a f l : Addr) (N : List Str) (S : List Int) (F : Flt) (T : Tab), vs = [.ref p, .ref a, .ref f, .ref l] ∧ Ask P w B N S F T H a l ∧ FltAt B N S H F f ∧ F.ht ≤ 2 ∧ S.length ≤ 4 ∧ ∀ H', Ex H H' → Q (.bl true) H'
theorem sc_rr : FnScope ["_law_pen_here", "_law_names", "_law_asked_so", "_law_lots_so", "_law_many", "_law_most", "_law_told", "_law_opposite", "_law_unknown"] ["_law_pen_here", "_law_names", "_law_asked_so", "_law_lots_so"] (defScope (Df.st .dlaw_rows_right)) := ⟨rfl, rfl, rfl, by decide +kernel, rfl, by decide +kernel, by decide +kernel⟩
theorem ok_rr (T : Txt P K mg A B Z) : FnR P w K mg base CX0 9 (A .dlaw_rows_right) (spRR P w B) := by
  refine (T.d0 .dlaw_rows_right).fn sc_rr (fun _ _ _ _ _ _ us h => by obtain ⟨a, b, c, d, rfl⟩ := len4 h; rfl) (fun vs H Q E h => by obtain ⟨_, _, _, _, _, _, _, _, rfl, _⟩ := h; rfl) fun cdv Ar outer s H vs Q E hr h => ?_
  obtain ⟨p, a, f, l, N, S, F, Tb, rfl, hA, hF, fh, sl, q⟩ := h
  have nd := sc_rr.nd
  have hr3 : Room (2 + 1) _ := hr.mono (j := 3) (by decide)
  have hr4 : Room (3 + 1) _ := hr.mono (j := 4) (by decide)
  have hr5 : Room 5 _ := hr.mono (j := 5) (by decide)
  have hr8 : Room (3 + 5) _ := hr
  have mMany := T.mkC .cMany (d := .dMany_init) rfl
  have mSome := T.mkC .cSome (d := .dSome_init) rfl
  have mAt := T.mkC .cAtLeast (d := .dAtLeast_init) rfl
  have mAlw := T.mkC .cAlways (d := .dFixed_init) rfl
  refine ⟨_, pss_cons (ps_set (i := 4) nd rfl (.inl rfl) (pe_ma (pe_mk mMany (ok_Ni T) hr3 rfl (T.gC .cMany) (pa_cons (pv 2) pa_nil)) (on_any T 3) hr8 (pa_cons (pv 1) (pa_cons (pv 3) pa_nil))))
    (pss_cons (ps_if (pt_cmpR op_ne (pe_callB cr_reprB rfl (T.blt _ (by decide)) (by decide +kernel) (pa_cons (pe_ma (pe_mk mSome (ok_Si T) hr3 rfl (T.gC .cSome) (pa_cons (pv 2) pa_nil)) (on_any T 3) hr8 (pa_cons (pv 1) (pa_cons (pv 3) pa_nil))) pa_nil))
        (pe_callB cr_reprB rfl (T.blt _ (by decide)) (by decide +kernel) (pa_cons (pe_cmpR op_gt (pv 4) pe_int (nomark _)) pa_nil)) (nomark _)) pss_never pss_nil)
    (pss_cons (ps_for PassesOwn.never rfl (pi_list (pe_lst (pa_cons pe_int (pa_cons pe_int (pa_cons (pv 4) (pa_cons (pe_op op_add (pv 4) pe_int) pa_nil)))))) (pg_name (i := 5) nd rfl (.inl rfl))
      (pss_cons (ps_set (i := 6) nd rfl (.inl rfl) (pe_ifExp (pt_cmpR op_gt (pv 5) pe_int (nomark _)) (pe_ma (pe_mk mAt (ok_Ati T) hr4 rfl (T.gC .cAtLeast) (pa_cons (pv 5) (pa_cons (pv 2) pa_nil))) (on_any T 3) hr8 (pa_cons (pv 1) (pa_cons (pv 3) pa_nil))) pe_bl))
      (pss_one (ps_if (pt_cmpR op_ne (pe_callB cr_reprB rfl (T.blt _ (by decide)) (by decide +kernel) (pa_cons (pv 6) pa_nil)) (pe_callB cr_reprB rfl (T.blt _ (by decide)) (by decide +kernel) (pa_cons (pe_cmpR op_ge (pv 4) (pv 5) (nomark _)) pa_nil)) (nomark _)) pss_never pss_nil))))
    (pss_cons (ps_par (i := 7) (j := 8) rfl nd rfl rfl (by decide) rfl rfl
      (pa_cons (pe_ma (pe_mk mMany (ok_Ni T) hr3 rfl (T.gC .cMany) (pa_cons (pe_un (un_own (inv_any T 3) hr5) (pv 2)) pa_nil)) (on_any T 3) hr8 (pa_cons (pv 1) (pa_cons (pv 3) pa_nil)))
      (pa_cons (pe_ma (pe_mk mMany (ok_Ni T) hr3 rfl (T.gC .cMany) (pa_cons (pe_mk0 mAlw (ok_Xi T) hr4 rfl (T.gC .cAlways)) pa_nil)) (on_any T 3) hr8 (pa_cons (pv 1) (pa_cons (pv 3) pa_nil))) pa_nil)) (by rfl))
    (pss_one (ps_ret (pe_and (pe_cmpR op_eq (pv 8) (pe_fld (pv 3) rfl) (nomark _)) (pe_one (pe_cmpR op_le (pe_op op_add (pv 4) (pv 7)) (pe_fld (pv 3) rfl) (nomark _))))))))), ?_⟩
  refine ⟨_, rfl, on_made (k := .many) hA hF (fun x H Q h => ⟨x, f, rfl, h⟩) (fun c h => nomatch h) (ok0 fun _ _ => nofun) rfl rfl fun v H1 e1 hv => ?_⟩
  obtain rfl : v = .int (many (ms F N none Tb)) := hv
  obtain ⟨dx, d, wd, es, hl, htd, he, tok, hwd⟩ := id hA.lot
  have pos := tok.pos
  refine ⟨_, rfl, on_made (k := .some) (hA.mono e1) (hF.mono e1) (fun x H Q h => ⟨x, f, rfl, h⟩) (fun c h => nomatch h) (ok0 fun _ _ => nofun) rfl rfl fun v H2 e2 hv => ?_⟩
  obtain rfl : v = .bl (decide (0 < (ms F N none Tb).length)) := hv
  have E2 := e1.trans e2
  have es1 : decide (0 < (ms F N none Tb).length) = decide (0 < many (ms F N none Tb)) := decide_eq_decide.mpr (many_some (ms_pos pos)).symm
  refine ⟨_, rfl, _, rfl, many (ms F N none Tb), 0, rfl, rfl, _, rfl, rfl, false, ?_, iteF ?_⟩
  · show V.bl (!decide (V.str (if decide (0 < (ms F N none Tb).length) = true then "True" else "False") = V.str (if decide (0 < many (ms F N none Tb)) = true then "True" else "False"))) = .bl false
    rw [es1]; simp
  refine ⟨_, rfl, _, rfl, _, 1, rfl, rfl, (by show 4 ≤ sizeLine; rw [sizeLine_eq]; decide), fun D hD => ?_⟩
  have n2 := Ex.new (o := .lst [.int 1, .int 2, .int (many (ms F N none Tb)), .int (many (ms F N none Tb) + 1)]) hD
  refine ⟨D, rfl, ⟨_, SqL.of upd_same⟩, for_it walk_list (fun i σ H' => (∃ z5 z6, σ = [some (.ref p), some (.ref a), some (.ref f), some (.ref l), some (.int (many (ms F N none Tb))), z5, z6, none, none]) ∧ Ex H H' ∧ Ex (upd H2 D (.lst [.int 1, .int 2, .int (many (ms F N none Tb)), .int (many (ms F N none Tb) + 1)])) H') ⟨⟨_, _, rfl⟩, E2.trans n2, Ex.refl _⟩ (fun i σ H' _ p => SqL.of (p.2.2 _ _ upd_same)) (fun i x σ H3 H4 hi p y => ?_) (fun σ H3 p => ?_)⟩
  · obtain ⟨rfl, hx⟩ := y
    obtain ⟨⟨z5, z6, rfl⟩, e3, e3'⟩ := p
    obtain ⟨m, rfl⟩ : ∃ m, x = .int m := by
      have := List.mem_of_getElem? hx
      simp only [List.mem_cons, List.not_mem_nil, or_false] at this
      rcases this with rfl | rfl | rfl | rfl <;> exact ⟨_, rfl⟩
    refine ⟨_, rfl, m, 0, rfl, rfl, decide (0 < m), rfl, ?_⟩
    by_cases hm : 0 < m
    · rw [decide_eq_true hm]
      refine iteT ⟨_, rfl, _, rfl, on_made (k := .atLeast m) (hA.mono e3) (hF.mono e3) (fun x H Q h => ⟨x, f, m, rfl, by omega, h⟩) (fun c h => nomatch h) (ok0 fun _ _ => nofun) rfl rfl fun v H5 e5 hv => ?_⟩
      obtain rfl : v = .bl (decide (m ≤ many (ms F N none Tb))) := hv
      refine ⟨_, rfl, _, rfl, _, rfl, _, rfl, many (ms F N none Tb), m, rfl, rfl, _, rfl, rfl, false, ?_, iteF ⟨⟨_, _, rfl⟩, e3.trans e5, e3'.trans e5⟩⟩
      show V.bl (!decide (V.str (if decide (m ≤ many (ms F N none Tb)) = true then "True" else "False") = V.str (if decide (m ≤ many (ms F N none Tb)) = true then "True" else "False"))) = .bl false
      simp
    · rw [decide_eq_false hm]
      refine iteF ⟨_, rfl, true, rfl, _, rfl, _, rfl, many (ms F N none Tb), m, rfl, rfl, _, rfl, rfl, false, ?_, iteF ⟨⟨_, _, rfl⟩, e3, e3'⟩⟩
      have nn := many_nn (ms_pos (F := F) (N := N) (asked := none) pos)
      show V.bl (!decide (V.str (if true = true then "True" else "False") = V.str (if decide (m ≤ many (ms F N none Tb)) = true then "True" else "False"))) = .bl false
      rw [decide_eq_true (show m ≤ many (ms F N none Tb) by omega)]; simp
  obtain ⟨⟨z5, z6, rfl⟩, e3, _⟩ := p
  have hF3 := hF.mono e3
  obtain ⟨dF, fF, hfI⟩ := hF3.ins
  refine ⟨_, rfl, f, _, dF, fF, rfl, hfI, ⟨F.cl, rfl, flt_cl F⟩, F, f, [], N, S, rfl, hF3, by omega, rfl, rfl, hA.nm, sl, fun y H4 e4 hy => ?_⟩
  have A4 := hA.mono (e3.trans e4)
  refine on_made (k := .many) (F := invF F) ⟨A4.nm, A4.at_, A4.lot, A4.num, by have := inv_ht F; omega⟩ hy (fun x H Q h => ⟨x, y, rfl, h⟩) (fun c h => nomatch h) (ok0 fun _ _ => nofun) rfl rfl fun v H5 e5 hv => ?_
  obtain rfl : v = .int (many (ms (invF F) N none Tb)) := hv
  refine fun z dz hz hdz _ => ⟨z, dz, true, rfl, upd_same, fun H6 eb hX => ⟨rfl, ?_⟩⟩
  have E6 := ((e3.trans e4).trans e5).trans (mk_ex hz hdz eb)
  have A6 := hA.mono E6
  refine on_made (k := .many) (F := .fixed true) ⟨A6.nm, A6.at_, A6.lot, A6.num, by decide⟩ (hX N S) (fun x H Q h => ⟨x, z, rfl, h⟩) (fun c h => nomatch h) (ok0 fun _ _ => nofun) rfl rfl fun v H7 e7 hv => ?_
  obtain rfl : v = .int (many (ms (.fixed true) N none Tb)) := hv
  have E7 := E6.trans e7
  have hl7 := E7 _ _ hl
  refine ⟨_, _, rfl, _, rfl, _, rfl, l, _, dx, _, _, rfl, hl7, T.cls _, T.no _ _ (by decide), rfl, rfl, true, ?_, iteT ⟨_, rfl, _, rfl, _, _, rfl, rfl, _, rfl, l, _, dx, _, _, rfl, hl7, T.cls _, T.no _ _ (by decide), rfl, _, _, rfl, rfl, ?_⟩⟩
  · rw [many_all]
    exact congrArg V.bl (decide_eq_true rfl)
  · have e := many_opp (F := F) (N := N) pos (invF F) (inv_opp F)
    show Q (.bl (decide (many (ms F N none Tb) + many (ms (invF F) N none Tb) ≤ mu Tb fun _ => 1))) H7
    rw [decide_eq_true e]
    exact q H7 E7
end
end Hs
set_option Elab.async false
set_option linter.all false
set_option maxRecDepth 100000
set_option maxHeartbeats 4000000
/-! The questions about values. -/
namespace Hs
open PySem PySem.Spec PyProof.Rows L2
section
variable {P : Program} {w : World} {K : PySem.W.Frag} {mg : Str → Option Value} {base : Heap} {A : Df → Addr} {B Z : Cl → Addr}
theorem sh_tints (ns : List Int) : SeqAt.shaped (.tuple (ns.map PyData.int)) = true := by
  simp [SeqAt.shaped, PyData.canLay0, PyData.depth, PySem.W.ke_canLayAll0, PySem.W.ke_depthAll]
theorem eqv_tints (ns : List Int) : PyData.eqv (.tuple (ns.map PyData.int)) (.tuple (ns.map PyData.int)) = true := SeqAt.eqv_refl _ (SeqAt.canLay_of_shaped (sh_tints ns))
theorem eqv_tnil (L : List Int) : PyData.eqv (.tuple (L.map PyData.int)) (.tuple []) = decide (L = []) := by
  cases L with
  | nil => simp only [List.map_nil, PyData.eqv, PyData.eqvAll, decide_true]
  | cons y ys => simp [PyData.eqv, PyData.eqvAll]
theorem max_min {vs : List Int} {o o' : Option Int} (h : IsMax vs o) (h' : IsMin vs o') (e : o = none) : o' = none := by
  subst e
  have h : vs = [] := h
  subst h
  cases o' with
  | none => rfl
  | some m => exact nomatch h'.1
theorem max_some {vs : List Int} {g : Int} {o' : Option Int} (h : IsMax vs (some g)) (h' : IsMin vs o') : ∃ l, o' = some l := by
  cases o' with
  | none =>
    have h' : vs = [] := h'
    subst h'
    exact nomatch h.1
  | some m => exact ⟨m, rfl⟩
def spVR (P : Program) (w : World) (B : Cl → Addr) : Sp := fun vs H Q _ => ∃ (p a f l : Addr) (c : Str) (N : List Str) (S : List Int) (F : Flt) (T : Tab), vs = [.ref p, .ref a, .ref f, .ref l, .str c] ∧ Ask P w B N S F T H a l ∧ FltAt B N S H F f ∧ F.ht ≤ 1 ∧ F.leaves ≤ 6 ∧ S.length ≤ 2 ∧ c ∈ N ∧ ∀ H', Ex H H' → Q (.bl true) H'
theorem sc_vr : FnScope ["_law_pen_here", "_law_names", "_law_asked_so", "_law_lots_so", "_law_column", "_law_long", "_law_most", "_law_least", "_law_greatest", "_law_inner"] ["_law_pen_here", "_law_names", "_law_asked_so", "_law_lots_so", "_law_column"] (defScope (Df.st .dlaw_values_right)) := ⟨rfl, rfl, rfl, by decide +kernel, rfl, by decide +kernel, by decide +kernel⟩
theorem ok_vr (T : Txt P K mg A B Z) : FnR P w K mg base CX0 9 (A .dlaw_values_right) (spVR P w B) := by
  refine (T.d0 .dlaw_values_right).fn sc_vr (fun _ _ _ _ _ _ us h => by obtain ⟨a, b, c, d, e, rfl⟩ := len5 h; rfl) (fun vs H Q E h => by obtain ⟨_, _, _, _, _, _, _, _, _, rfl, _⟩ := h; rfl) fun cdv Ar outer s H vs Q E hr h => ?_
  obtain ⟨p, a, f, l, c, N, S, F, Tb, rfl, hA, hF, fh, fl, sl, hc, q⟩ := h
  have nd := sc_vr.nd
  have hr3 : Room (2 + 1) _ := hr.mono (j := 3) (by decide)
  have hr4 : Room (3 + 1) _ := hr.mono (j := 4) (by decide)
  have hr7 : Room (1 + 6) _ := hr.mono (j := 7) (by decide)
  have hr8 : Room (3 + 5) _ := hr
  have hr8' : Room (2 + 6) _ := hr
  have mSome := T.mkC .cSome (d := .dSome_init) rfl
  have mTop := T.mkC .cTop (d := .dTop_init) rfl
  have mGr := T.mkC .cGreatest (d := .dGreatest_init) rfl
  have mLe := T.mkC .cLeast (d := .dLeast_init) rfl
  have mTo := T.mkC .cTotal (d := .dTotal_init) rfl
  have mAM := T.mkC .cAtMost (d := .dCompared_init) rfl
  have mL := T.mkC .cLess (d := .dCompared_init) rfl
  refine ⟨_, pss_cons (ps_set (i := 5) nd rfl (.inl rfl) (pe_ma (pe_mk mTop (ok_Top T) hr4 rfl (T.gC .cTop) (pa_cons pe_int (pa_cons (pv 4) (pa_cons (pv 2) pa_nil)))) (on_any T 3) hr8 (pa_cons (pv 1) (pa_cons (pv 3) pa_nil))))
    (pss_cons (ps_for PassesOwn.never rfl (pi_range2 (by rfl) (T.blt _ (by decide)) (pa_cons pe_int (pa_cons pe_int pa_nil))) (pg_name (i := 6) nd rfl (.inl rfl))
      (pss_one (ps_if (pt_cmpR (op_neD hr.units) (pe_ma (pe_mk mTop (ok_Top T) hr4 rfl (T.gC .cTop) (pa_cons (pv 6) (pa_cons (pv 4) (pa_cons (pv 2) pa_nil)))) (on_any T 3) hr8 (pa_cons (pv 1) (pa_cons (pv 3) pa_nil))) (pe_slice sl_tupA (pv 5) po_none (po_some (pv 6))) (nomark _)) pss_never pss_nil)))
    (pss_cons (ps_if (pt_cmpR op_ne (pe_ma (pe_mk mGr (ok_Greatest T) hr4 rfl (T.gC .cGreatest) (pa_cons (pv 4) (pa_cons (pv 2) pa_nil))) (on_any T 3) hr8 (pa_cons (pv 1) (pa_cons (pv 3) pa_nil)))
        (pe_ifExp (pt_cmpR (op_neD hr.units) (pv 5) (pe_tup pa_nil) (nomark _)) (pe_ix ix_tup (pv 5) pe_int (fun _ _ => rfl)) pe_non) (nomark _)) pss_never pss_nil)
    (pss_cons (ps_par (i := 7) (j := 8) rfl nd rfl rfl (by decide) rfl rfl
      (pa_cons (pe_ma (pe_mk mLe (ok_Least T) hr4 rfl (T.gC .cLeast) (pa_cons (pv 4) (pa_cons (pv 2) pa_nil))) (on_any T 3) hr8 (pa_cons (pv 1) (pa_cons (pv 3) pa_nil)))
      (pa_cons (pe_ma (pe_mk mGr (ok_Greatest T) hr4 rfl (T.gC .cGreatest) (pa_cons (pv 4) (pa_cons (pv 2) pa_nil))) (on_any T 3) hr8 (pa_cons (pv 1) (pa_cons (pv 3) pa_nil))) pa_nil)) (by rfl))
    (pss_cons (ps_if (pt_cmp (pc_isN (pv 8))) (pss_one (ps_ret (pe_and (pe_cmp (pc_isN (pv 7)) rfl) (pe_one (pe_cmpR op_eq (pe_ma (pe_mk mTo (ok_Total T) hr4 rfl (T.gC .cTotal) (pa_cons (pv 4) (pa_cons (pv 2) pa_nil))) (on_any T 3) hr8 (pa_cons (pv 1) (pa_cons (pv 3) pa_nil))) pe_int (nomark _)))))) pss_nil)
    (pss_cons (ps_set (i := 9) nd rfl (.inl rfl) (pe_op (op_own2 (op := .BitAnd) (SP := fun _ => spJop B 2 true) (fun C C' g => and_any T 2 C C' g) hr8')
      (pe_op (op_own2 (op := .BitAnd) (SP := fun _ => spJop B 1 true) (fun C C' g => and_any T 1 C C' g) hr7) (pv 2) (pe_mk mAM (ok_Ci T) hr4 rfl (T.gC .cAtMost) (pa_cons (pv 4) (pa_cons (pv 8) pa_nil)))) (pe_mk mAM (ok_Ci T) hr4 rfl (T.gC .cAtMost) (pa_cons (pv 7) (pa_cons (pv 4) pa_nil)))))
    (pss_cons (ps_if (PW.pt (pw_or (pt_val (pe_ma (pe_mk mSome (ok_Si T) hr3 rfl (T.gC .cSome) (pa_cons (pe_op (op_own2 (op := .BitAnd) (SP := fun _ => spJop B 1 true) (fun C C' g => and_any T 1 C C' g) hr7) (pv 2) (pe_mk mL (ok_Ci T) hr4 rfl (T.gC .cLess) (pa_cons (pv 8) (pa_cons (pv 4) pa_nil)))) pa_nil)) (on_any T 3) hr8 (pa_cons (pv 1) (pa_cons (pv 3) pa_nil))))
        (pw_or1 (pt_not (pt_val (pe_ma (pe_mk mSome (ok_Si T) hr3 rfl (T.gC .cSome) (pa_cons (pv 9) pa_nil)) (on_any T 3) hr8 (pa_cons (pv 1) (pa_cons (pv 3) pa_nil)))))))) pss_never pss_nil)
    (pss_one (ps_ret (pe_cmpR op_eq (pe_ma (pe_mk mTo (ok_Total T) hr4 rfl (T.gC .cTotal) (pa_cons (pv 4) (pa_cons (pv 2) pa_nil))) (on_any T 3) hr8 (pa_cons (pv 1) (pa_cons (pv 3) pa_nil)))
      (pe_ma (pe_mk mTo (ok_Total T) hr4 rfl (T.gC .cTotal) (pa_cons (pv 4) (pa_cons (pv 9) pa_nil))) (on_any T 3) hr8 (pa_cons (pv 1) (pa_cons (pv 3) pa_nil))) (nomark _)))))))))), ?_⟩
  obtain ⟨dx, d, wd, es, hl, htd, he, tok, hwd⟩ := id hA.lot
  have pos := tok.pos
  have hN := hA.nm
  have mpos : AllPos (ms F N (some c) Tb) := ms_pos pos
  have hk : ∀ c', some c = some c' → c' ∈ N := fun c' h => by cases h; exact hc
  have okT : ∀ m, 1 ≤ m → m ≤ 4 → KdOk (.top m c) := fun m h1 h2 m' c' h => by cases h; exact ⟨h1, h2⟩
  refine ⟨_, rfl, _, rfl, on_made (k := .top 4 c) hA hF (fun x H Q h => ⟨x, f, c, N, 4, rfl, by decide, by decide, hN, hc, h⟩) hk (okT 4 (by decide) (by decide)) rfl rfl fun v H1 e1 hv => ?_⟩
  obtain ⟨t, L, rfl, ht, hL⟩ := hv
  refine ⟨1, 5, rfl, ⟨by decide, by decide, by decide, by decide⟩, ?_⟩
  refine for_it walk_range (fun i σ H' => (∃ z6, σ = [some (.ref p), some (.ref a), some (.ref f), some (.ref l), some (.str c), some (.ref t), z6, none, none, none]) ∧ Ex H H' ∧ Ex H1 H') ⟨⟨_, rfl⟩, e1, Ex.refl _⟩ (fun _ _ _ _ _ => trivial) (fun i x σ H2 H3 hi p y => ?_) (fun σ H2 p => ?_)
  · obtain ⟨rfl, rfl⟩ := y
    obtain ⟨⟨z6, rfl⟩, e2, e2'⟩ := p
    have hi : i < 4 := hi
    have okm : KdOk (.top (1 + (i : Nat)) c) := okT _ (by omega) (by omega)
    refine ⟨_, rfl, _, rfl, _, rfl, on_made (k := .top (1 + (i : Nat)) c) (hA.mono e2) (hF.mono e2) (fun x H Q h => ⟨x, f, c, N, 1 + (i : Nat), rfl, by omega, by omega, hN, hc, h⟩) hk okm rfl rfl fun v H4 e4 hv => ?_⟩
    obtain ⟨t', L', rfl, ht', hL'⟩ := hv
    have ht4 := e4 _ _ (e2' _ _ ht)
    have eL : L' = L.take (1 + (i : Nat) : Int).toNat := top_take mpos (by omega) hL' hL
    have cut : cutV (L.map V.int) none (some (1 + (i : Nat) : Int)) = L'.map V.int := by rw [cut_to (by omega), ← List.map_take, ← eL]
    have fin : ∀ (p1 : Addr) (H5 : Hp), Ex H4 H5 → SqT K H5 p1 (L'.map V.int) → ∃ d e, Dp K H5 (.ref t') d ∧ Dp K H5 (.ref p1) e ∧ SeqAt.shaped d = true ∧ SeqAt.shaped e = true ∧ PyData.eqv d e = true := fun p1 H5 e5 h5 =>
      ⟨_, _, .tup (SqT.of (e5 _ _ ht')) (dp_ints L'), .tup h5 (dp_ints L'), sh_tints L', sh_tints L', eqv_tints L'⟩
    refine ⟨_, rfl, _, rfl, 1 + (i : Nat), rfl, t, L.map V.int, rfl, SqT.of ht4, fun hw => ?_, fun hw p1 hp1 => ?_⟩
    · have hw2 : L.map V.int = L'.map V.int := by
        rw [← cut]
        unfold cutV
        rw [hw.1, hw.2, List.drop_zero, Nat.sub_zero, List.take_length]
      obtain ⟨d, e, h1, h2, h3, h4, h5⟩ := fin t H4 (Ex.refl _) (by rw [← hw2]; exact SqT.of ht4)
      exact ⟨d, e, h1, h2, h3, h4, false, congrArg (fun b => V.bl (!b)) h5, iteF ⟨⟨_, rfl⟩, e2.trans e4, e2'.trans e4⟩⟩
    · rw [cut] at *
      have n1 := Ex.new (o := .tup (L'.map V.int)) hp1
      obtain ⟨d, e, h1, h2, h3, h4, h5⟩ := fin p1 _ n1 (SqT.of upd_same)
      exact ⟨d, e, h1, h2, h3, h4, false, congrArg (fun b => V.bl (!b)) h5, iteF ⟨⟨_, rfl⟩, (e2.trans e4).trans n1, (e2'.trans e4).trans n1⟩⟩
  obtain ⟨⟨z6, rfl⟩, e2, e2'⟩ := p
  refine ⟨_, rfl, _, rfl, on_made (k := .greatest c) (hA.mono e2) (hF.mono e2) (fun x H Q h => ⟨x, f, c, N, rfl, hN, hc, h⟩) hk (ok0 fun _ _ => nofun) rfl rfl fun v H3 e3 hv => ?_⟩
  obtain ⟨o, rfl, ho⟩ := hv
  have E3 := e2.trans e3
  have hhd : o = L.head? := top_head (by decide) mpos hL ho
  refine ⟨_, rfl, Nat.zero_le _, fun t0 ht0 => ?_⟩
  have n3 := Ex.new (o := .tup []) ht0
  have ht3 := n3 _ _ (e3 _ _ (e2' _ _ ht))
  refine ⟨_, _, .tup (SqT.of ht3) (dp_ints L), .tup (SqT.of upd_same) .nil, sh_tints L, rfl, !decide (L = []), congrArg (fun b => V.bl (!b)) (eqv_tnil L), ?_⟩
  have hcase : (L = [] ∧ o = none) ∨ ∃ y ys, L = y :: ys ∧ o = some y := by
    cases L with
    | nil => exact .inl ⟨rfl, hhd⟩
    | cons y ys => exact .inr ⟨y, ys, rfl, hhd⟩
  have E4 := E3.trans n3
  suffices rest : _ by
    rcases hcase with ⟨h1, h2⟩ | ⟨y, ys, h1, h2⟩
    · rw [h1, h2]
      exact iteF ⟨rfl, false, rfl, iteF rest⟩
    · rw [h1, h2]
      exact iteT ⟨_, rfl, t, _, 0, .int y, rfl, rfl, SqT.of ht3, by rw [h1]; exact atI_0, rfl, false, congrArg (fun b => V.bl (!b)) (decide_eq_true rfl), iteF rest⟩
  clear hcase
  refine ⟨_, rfl, _, rfl, on_made (k := .least c) (hA.mono E4) (hF.mono E4) (fun x H Q h => ⟨x, f, c, N, rfl, hN, hc, h⟩) hk (ok0 fun _ _ => nofun) rfl rfl fun v H5 e5 hv => ?_⟩
  obtain ⟨lo, rfl, hlo⟩ := hv
  have E5 := E4.trans e5
  refine ⟨_, rfl, _, rfl, on_made (k := .greatest c) (hA.mono E5) (hF.mono E5) (fun x H Q h => ⟨x, f, c, N, rfl, hN, hc, h⟩) hk (ok0 fun _ _ => nofun) rfl rfl fun v H6 e6 hv => ?_⟩
  obtain ⟨gr, rfl, hgr⟩ := hv
  have E6 := E5.trans e6
  refine ⟨_, _, rfl, ?_⟩
  refine ⟨_, rfl, _, rfl, ?_⟩
  cases gr with
  | none =>
    obtain rfl : lo = none := max_min hgr hlo rfl
    refine iteT ⟨_, rfl, true, congrArg V.bl (decide_eq_true rfl), iteT ⟨_, rfl, _, rfl, on_made (k := .total c) (hA.mono E6) (hF.mono E6) (fun x H Q h => ⟨x, f, c, N, rfl, hN, hc, h⟩) hk (ok0 fun _ _ => nofun) rfl rfl fun v H7 e7 hv => ?_⟩⟩
    obtain rfl : v = .int (total (ms F N (some c) Tb)) := hv
    refine ⟨rfl, ?_⟩
    show Q (.bl (decide (V.int (total (ms F N (some c) Tb)) = V.int 0))) H7
    rw [total_none (show vals (ms F N (some c) Tb) = [] from hgr), decide_eq_true rfl]
    exact q H7 (E6.trans e7)
  | some g =>
    obtain ⟨m, rfl⟩ := max_some hgr hlo
    have sl4 : (S ++ [g, m]).length ≤ 4 := by rw [List.length_append]; show S.length + 2 ≤ 4; omega
    have gS : g ∈ S ++ [g, m] := by simp
    have mS : m ∈ S ++ [g, m] := by simp
    have wide : ∀ {H'}, Ex H H' → FltAt B N (S ++ [g, m]) H' F f := fun e => (hF.mono e).widen fun x hx => List.mem_append_left _ hx
    refine iteF ⟨_, rfl, _, rfl, _, rfl, fun x dx hx hd _ => ⟨x, dx, .le, .col c, .num g, N, S ++ [g, m], rfl, upd_same, hN, hc, gS, .inl ⟨_, rfl⟩, fun H7 eb hX => ⟨rfl, ?_⟩⟩⟩
    have E7 := E6.trans (mk_ex hx hd eb)
    have hF7 := wide E7
    obtain ⟨dF, fF, iF⟩ := hF7.ins
    obtain ⟨dX, fX, iX⟩ := hX.ins
    refine ⟨f, _, dF, fF, x, _, dX, fX, rfl, rfl, iF, iX, ⟨⟨F.cl, rfl, flt_cl F⟩, .cAtMost, rfl, rfl⟩, f, x, N, S ++ [g, m], F, .cmp .le (.col c) (.num g), rfl, hN, sl4, hF7, hX, fh, Nat.zero_le _, (by show F.leaves + 1 ≤ 8; omega), fun y H8 e8 hY => ?_⟩
    refine ⟨_, rfl, _, rfl, fun z dz hz hdz _ => ⟨z, dz, .le, .num m, .col c, N, S ++ [g, m], rfl, upd_same, hN, mS, hc, .inr ⟨_, rfl⟩, fun H9 eb2 hZ => ⟨rfl, ?_⟩⟩⟩
    have e9 := mk_ex hz hdz eb2
    have hY9 := hY.mono e9
    obtain ⟨dY, fY, iY⟩ := hY9.ins
    obtain ⟨dZ, fZ, iZ⟩ := hZ.ins
    refine ⟨y, _, dY, fY, z, _, dZ, fZ, rfl, rfl, iY, iZ, ⟨⟨_, rfl, flt_cl _⟩, .cAtMost, rfl, rfl⟩, y, z, N, S ++ [g, m], .both F (.cmp .le (.col c) (.num g)), .cmp .le (.num m) (.col c), rfl, hN, sl4, hY9, hZ, (by show max F.ht 0 + 1 ≤ 2; omega), Nat.zero_le _, (by show F.leaves + 1 + 1 ≤ 8; omega), fun u H10 e10 hU => ?_⟩
    have hU : FltAt B N (S ++ [g, m]) H10 (F.within c m g) u := hU
    have E10 := ((E7.trans e8).trans e9).trans e10
    refine ⟨_, rfl, _, rfl, _, rfl, fun x2 dx2 hx2 hd2 _ => ⟨x2, dx2, .lt, .num g, .col c, N, S ++ [g, m], rfl, upd_same, hN, gS, hc, .inr ⟨_, rfl⟩, fun H11 eb3 hX2 => ⟨rfl, ?_⟩⟩⟩
    have e11 := mk_ex hx2 hd2 eb3
    have E11 := E10.trans e11
    have hF11 := wide E11
    obtain ⟨dF, fF, iF⟩ := hF11.ins
    obtain ⟨dX, fX, iX⟩ := hX2.ins
    refine ⟨f, _, dF, fF, x2, _, dX, fX, rfl, rfl, iF, iX, ⟨⟨F.cl, rfl, flt_cl F⟩, .cLess, rfl, rfl⟩, f, x2, N, S ++ [g, m], F, .cmp .lt (.num g) (.col c), rfl, hN, sl4, hF11, hX2, fh, Nat.zero_le _, (by show F.leaves + 1 ≤ 8; omega), fun y2 H12 e12 hY2 => ?_⟩
    have hY2 : FltAt B N (S ++ [g, m]) H12 (.both F (.cmp .lt (.num g) (.col c))) y2 := hY2
    have E12 := E11.trans e12
    have A12 := hA.mono E12
    refine on_made (k := .some) ⟨A12.nm, A12.at_, A12.lot, A12.num, (by show max F.ht 0 + 1 ≤ 3; omega)⟩ hY2 (fun x H Q h => ⟨x, y2, rfl, h⟩) (fun c h => nomatch h) (ok0 fun _ _ => nofun) rfl rfl fun v H13 e13 hv => ?_
    obtain rfl : v = .bl (decide (0 < (ms (.both F (.cmp .lt (.num g) (.col c))) N none Tb).length)) := hv
    have E13 := E12.trans e13
    have A13 := hA.mono E13
    have hU13 := hU.mono ((e11.trans e12).trans e13)
    refine ⟨false, congrArg V.bl (decide_eq_false (by rw [nothing_above hgr]; decide)), iteF ⟨_, rfl, on_made (k := .some) (F := F.within c m g) ⟨A13.nm, A13.at_, A13.lot, A13.num, (by show max (max F.ht 0 + 1) 0 + 1 ≤ 3; omega)⟩ hU13 (fun x H Q h => ⟨x, u, rfl, h⟩) (fun c h => nomatch h) (ok0 fun _ _ => nofun) rfl rfl fun v H14 e14 hv => ?_⟩⟩
    obtain rfl : v = .bl (decide (0 < (ms (F.within c m g) N none Tb).length)) := hv
    have E14 := E13.trans e14
    have A14 := hA.mono E14
    refine ⟨true, congrArg V.bl (decide_eq_true (some_within hlo hgr)), iteF ⟨_, rfl, _, rfl, on_made (k := .total c) A14 (hF.mono E14) (fun x H Q h => ⟨x, f, c, N, rfl, hN, hc, h⟩) hk (ok0 fun _ _ => nofun) rfl rfl fun v H15 e15 hv => ?_⟩⟩
    obtain rfl : v = .int (total (ms F N (some c) Tb)) := hv
    have A15 := A14.mono e15
    refine ⟨_, rfl, _, rfl, on_made (k := .total c) (F := F.within c m g) ⟨A15.nm, A15.at_, A15.lot, A15.num, (by show max (max F.ht 0 + 1) 0 + 1 ≤ 3; omega)⟩ (hU13.mono (e14.trans e15)) (fun x H Q h => ⟨x, u, c, N, rfl, hN, hc, h⟩) hk (ok0 fun _ _ => nofun) rfl rfl fun v H16 e16 hv => ?_⟩
    obtain rfl : v = .int (total (ms (F.within c m g) N (some c) Tb)) := hv
    refine ⟨rfl, ?_⟩
    show Q (.bl (decide (V.int (total (ms F N (some c) Tb)) = V.int (total (ms (F.within c m g) N (some c) Tb))))) H16
    rw [← total_within hlo hgr, decide_eq_true rfl]
    exact q H16 ((E14.trans e15).trans e16)
end
end Hs
set_option Elab.async false
set_option linter.all false
set_option maxRecDepth 100000
set_option maxHeartbeats 4000000
/-! Negated integers. -/
namespace Hs
open PySem PySem.Spec PyProof.Rows L2
/-! ### plain -/
theorem isMax_iff {vs ws : List Int} {o : Option Int} (h : ∀ v, v ∈ vs ↔ v ∈ ws) (m : IsMax vs o) : IsMax ws o := by
  cases o with
  | none =>
    have m : vs = [] := m
    subst m
    exact List.eq_nil_iff_forall_not_mem.mpr fun v hv => nomatch (h v).mpr hv
  | some g => exact ⟨(h g).mp m.1, fun x hx => m.2 x ((h x).mpr hx)⟩
theorem eqv_ng {T U : Tab} (h : Eqv T U) : Eqv (ngT T) (ngT U) := fun f => by
  unfold ngT
  rw [mu_map, mu_map, h]
theorem pos_ng {T : Tab} (h : AllPos T) : AllPos (ngT T) := fun p hp => by
  obtain ⟨q, hq, rfl⟩ := List.mem_map.mp hp
  exact h q hq
theorem ms_back {F : Flt} {N : List Str} {asked : Option Str} {T U P0 : Tab} (h1 : Eqv T P0) (h2 : Eqv U (ngT P0)) : Eqv (ms F.mir N asked U) ((ms F N asked T).map fun p => (ng p.1, p.2)) := by
  rw [← ms_neg]
  exact ms_eqv (h2.trans (eqv_ng h1).symm)
theorem pos_map {M : ML} (h : AllPos M) : AllPos (M.map fun p => (ng p.1, p.2)) := fun p hp => by
  obtain ⟨q, hq, rfl⟩ := List.mem_map.mp hp
  exact h q hq
theorem least_back {F : Flt} {N : List Str} {c : Str} {T U P0 : Tab} {a b : Option Int} (h1 : Eqv T P0) (h2 : Eqv U (ngT P0)) (p1 : AllPos T) (p2 : AllPos U) (ha : IsMin (vals (ms F N (some c) T)) a) (hb : IsMax (vals (ms F.mir N (some c) U)) b) : b.map (fun v => 0 - v) = a :=
  least_neg ha (isMax_iff (vals_eqv_iff (ms_back h1 h2) (ms_pos p2) (pos_map (ms_pos p1))) hb)
theorem many_back {F : Flt} {N : List Str} {asked : Option Str} {T U P0 : Tab} (h1 : Eqv T P0) (h2 : Eqv U (ngT P0)) : many (ms F.mir N asked U) = many (ms F N asked T) := by
  rw [many_eqv (ms_back h1 h2), many_neg]
theorem total_back {F : Flt} {N : List Str} {asked : Option Str} {T U P0 : Tab} (h1 : Eqv T P0) (h2 : Eqv U (ngT P0)) : total (ms F N asked T) + total (ms F.mir N asked U) = 0 := by
  rw [total_eqv (ms_back h1 h2), total_neg]
/-! ### drawn tables -/
theorem mu_most {T : Tab} {b : Int} (h : ∀ p, p ∈ T → p.2 ≤ b) (b0 : 0 ≤ b) : mu T (fun _ => 1) ≤ b * T.length := by
  induction T with
  | nil => simp [mu_nil]
  | cons p T ih =>
    rw [mu_cons]
    have h1 := ih fun q hq => h q (List.mem_cons_of_mem _ hq)
    have h2 := h p (List.mem_cons_self ..)
    rw [List.length_cons]
    have e : b * ((T.length + 1 : Nat) : Int) = b * (T.length : Int) + b := by rw [Int.natCast_add, Int.mul_add]; simp
    rw [e]
    omega
theorem tab_ok {n : Nat} {H : Hp} {ps : PL} (h : PrsAt n H ps) (d : DrB ps) (l : ps.length ≤ 10) : TabOk n (ps.map (·.2)) := by
  refine ⟨fun p hp => ?_, fun p hp => ?_, fun p hp v hv => ?_, by rw [List.length_map]; omega, ?_⟩
  · obtain ⟨x, hx, rfl⟩ := List.mem_map.mp hp
    exact (h x hx).2.2
  · obtain ⟨x, hx, rfl⟩ := List.mem_map.mp hp
    exact (h x hx).2.1
  · obtain ⟨x, hx, rfl⟩ := List.mem_map.mp hp
    exact (d x hx).1 v hv
  · have h1 : mu (ps.map (·.2)) (fun _ => 1) ≤ 10 ^ 25 * ((ps.map (·.2)).length : Nat) := mu_most (fun p hp => by
      obtain ⟨x, hx, rfl⟩ := List.mem_map.mp hp
      exact (d x hx).2) (by decide)
    rw [List.length_map] at h1
    have h2 : (10 : Int) ^ 25 * (ps.length : Nat) ≤ 10 ^ 25 * 10 := Int.mul_le_mul_of_nonneg_left (by omega) (by decide)
    have h3 : (10 : Int) ^ 25 * 10 < 2 ^ 100 := by decide
    exact Int.lt_of_le_of_lt (Int.le_trans h1 h2) h3
theorem tab_ng {n : Nat} {T : Tab} (h : TabOk n T) : TabOk n (ngT T) := by
  refine ⟨pos_ng h.pos, fun p hp => ?_, fun p hp v hv => ?_, by unfold ngT; rw [List.length_map]; exact h.num, ?_⟩
  · obtain ⟨q, hq, rfl⟩ := List.mem_map.mp hp
    show (ngR q.1).length = n
    unfold ngR
    rw [List.length_map]
    exact h.len q hq
  · obtain ⟨q, hq, rfl⟩ := List.mem_map.mp hp
    have hv : some v ∈ ngR q.1 := hv
    unfold ngR at hv
    obtain ⟨o, ho, e⟩ := List.mem_map.mp hv
    cases o with
    | none => cases e
    | some u =>
      have e : some (0 - u) = some v := e
      have := h.big q hq u ho
      cases e
      omega
  · unfold ngT
    rw [mu_map]
    exact h.tot
section
variable {P : Program} {w : World} {K : PySem.W.Frag} {mg : Str → Option Value} {base : Heap} {A : Df → Addr} {B Z : Cl → Addr}
def spTR (P : Program) (w : World) (K : PySem.W.Frag) (B : Cl → Addr) : Sp := fun vs H Q _ => ∃ (a f l : Addr) (c : Str) (N : List Str) (S : List Int) (F : Flt) (ps : PL), vs = [.ref a, .ref f, .ref l, .str c] ∧ N ∈ Ns ∧ H a = some (.tup (N.map V.str)) ∧ FltAt B N S H F f ∧ F.ht ≤ 1 ∧ F.leaves ≤ 8 ∧ S.length ≤ 4 ∧ c ∈ N ∧
  SqL K H l (refs ps) ∧ PrsAt N.length H ps ∧ DrB ps ∧ ps.length ≤ 10 ∧ ∀ H', Ex H H' → Q (.bl true) H'
theorem sc_tr : FnScope ["_law_names", "_law_asked_so", "_law_rows", "_law_column", "_law_lots_so", "_law_back", "_law_least", "_law_other"] ["_law_names", "_law_asked_so", "_law_rows", "_law_column"] (defScope (Df.st .dlaw_turned_right)) := ⟨rfl, rfl, rfl, by decide +kernel, rfl, by decide +kernel, by decide +kernel⟩
/-- mirrored of a filter -/
theorem mir_at {N : List Str} {S : List Int} {F : Flt} {H : Hp} {f : Addr} {Q : VK} (hF : FltAt B N S H F f) (fh : F.ht ≤ 1) (hN : N ∈ Ns) (sl : S.length ≤ 4) (fl : F.leaves ≤ 8) (q : ∀ x H', Ex H H' → FltAt B N (ngS S) H' F.mir x → Q (.ref x) H') :
    ∃ a C dx fs, V.ref f = .ref a ∧ H a = some (.ins C dx fs) ∧ GoodF B fltI C ∧ fs.lookup ("mirrored" : Str) = none ∧ SPc B .mmirrored 1 (Jmi B) C [.ref f] H Q E0 := by
  have h0 := hF
  obtain ⟨dx, t1, t2, t3, ks, r, hp, hH, hR⟩ := hF
  exact ⟨f, _, dx, _, rfl, hp, ⟨F.cl, rfl, flt_cl F⟩, rest_no hR t1 t2 t3 .mmirrored (.inr (.inr (.inr (.inr (.inr (.inl rfl)))))), F, f, [], N, S, rfl, h0, fh, rfl, rfl, hN, sl, fl, q⟩
theorem ok_tr (T : Txt P K mg A B Z) : FnR P w K mg base CX0 10 (A .dlaw_turned_right) (spTR P w K B) := by
  refine (T.d0 .dlaw_turned_right).fn sc_tr (fun _ _ _ _ _ _ us h => by obtain ⟨a, b, c, d, rfl⟩ := len4 h; rfl) (fun vs H Q E h => by obtain ⟨_, _, _, _, _, _, _, _, rfl, _⟩ := h; rfl) fun cdv Ar outer s H vs Q E hr h => ?_
  obtain ⟨a, f, l, c, N, S, F, ps, rfl, hN, ha, hF, fh, fl, sl, hc, hl, hps, dr, pl, q⟩ := h
  have nd := sc_tr.nd
  have hr1 : Room 1 _ := hr.mono (j := 1) (by decide)
  have hr3 : Room (2 + 1) _ := hr.mono (j := 3) (by decide)
  have hr4 : Room (3 + 1) _ := hr.mono (j := 4) (by decide)
  have hr8 : Room (3 + 5) _ := hr.mono (j := 8) (by decide)
  have hrm : Room (1 + 7) _ := hr.mono (j := 8) (by decide)
  have mMany := T.mkC .cMany (d := .dMany_init) rfl
  have mGr := T.mkC .cGreatest (d := .dGreatest_init) rfl
  have mLe := T.mkC .cLeast (d := .dLeast_init) rfl
  have mTo := T.mkC .cTotal (d := .dTotal_init) rfl
  refine ⟨_, pss_cons (ps_par (i := 4) (j := 5) rfl nd rfl rfl (by decide) rfl rfl
      (pa_cons (pe_fn (ok_lots T N.length) hr rfl (T.gD .dlaw_lots rfl) (T.dk .dlaw_lots).kp (pa_cons (pv 2) pa_nil))
      (pa_cons (pe_fn (ok_lots T N.length) hr rfl (T.gD .dlaw_lots rfl) (T.dk .dlaw_lots).kp (pa_cons (pe_fn (ok_neg T N.length) hr1 rfl (T.gD .dlaw_negated rfl) (T.dk .dlaw_negated).kp (pa_cons (pv 2) pa_nil)) pa_nil)) pa_nil)) (by rfl))
    (pss_cons (ps_set (i := 6) nd rfl (.inl rfl) (pe_ma (pe_mk mLe (ok_Least T) hr4 rfl (T.gC .cLeast) (pa_cons (pv 3) (pa_cons (pv 1) pa_nil))) (on_any T 3) hr8 (pa_cons (pv 0) (pa_cons (pv 4) pa_nil))))
    (pss_cons (ps_set (i := 7) nd rfl (.inl rfl) (pe_ma (pe_mk mGr (ok_Greatest T) hr4 rfl (T.gC .cGreatest) (pa_cons (pv 3) (pa_cons (pe_ma0 (pv 1) (mir_any T 1) hrm) pa_nil))) (on_any T 3) hr8 (pa_cons (pv 0) (pa_cons (pv 5) pa_nil))))
    (pss_cons (ps_if (pt_cmpR op_ne (pe_ifExp (pt_cmp (pc_isN (pv 7))) pe_non (pe_op op_sub pe_int (pv 7))) (pv 6) (nomark _)) pss_never pss_nil)
    (pss_cons (ps_if (pt_cmpR op_ne (pe_ma (pe_mk mMany (ok_Ni T) hr3 rfl (T.gC .cMany) (pa_cons (pv 1) pa_nil)) (on_any T 3) hr8 (pa_cons (pv 0) (pa_cons (pv 4) pa_nil)))
        (pe_ma (pe_mk mMany (ok_Ni T) hr3 rfl (T.gC .cMany) (pa_cons (pe_ma0 (pv 1) (mir_any T 1) hrm) pa_nil)) (on_any T 3) hr8 (pa_cons (pv 0) (pa_cons (pv 5) pa_nil))) (nomark _)) pss_never pss_nil)
    (pss_one (ps_ret (pe_cmpR op_eq (pe_op op_add (pe_ma (pe_mk mTo (ok_Total T) hr4 rfl (T.gC .cTotal) (pa_cons (pv 3) (pa_cons (pv 1) pa_nil))) (on_any T 3) hr8 (pa_cons (pv 0) (pa_cons (pv 4) pa_nil)))
      (pe_ma (pe_mk mTo (ok_Total T) hr4 rfl (T.gC .cTotal) (pa_cons (pv 3) (pa_cons (pe_ma0 (pv 1) (mir_any T 1) hrm) pa_nil))) (on_any T 3) hr8 (pa_cons (pv 0) (pa_cons (pv 5) pa_nil)))) pe_int (nomark _)))))))), ?_⟩
  have nl := ns_len3 hN
  have tk := tab_ok hps dr pl
  have hk : ∀ c', some c = some c' → c' ∈ N := fun c' h => by cases h; exact hc
  refine ⟨_, rfl, l, ps, rfl, hl, hps, tk, nl.1, nl.2, by omega, fun x1 T1 H1 e1 hL1 q1 n1 => ?_⟩
  refine ⟨_, rfl, l, ps, rfl, ex_l e1 hl, hps.mono e1, nl.2, by omega, fun l2 ps2 H2 e2 hl2 hps2 eq2 => ?_⟩
  have lp2 : ps2.length = ps.length := by
    have := congrArg List.length eq2
    unfold ngT at this
    rwa [List.length_map, List.length_map, List.length_map] at this
  refine ⟨l2, ps2, rfl, SqL.of hl2, hps2, by rw [eq2]; exact tab_ng tk, nl.1, nl.2, by omega, fun x2 T2 H3 e3 hL2 q2 n2 => ?_⟩
  rw [eq2] at q2
  have E3 := (e1.trans e2).trans e3
  have hL1 := hL1.mono (e2.trans e3)
  obtain ⟨_, _, _, _, _, _, _, tok1, _⟩ := id hL1
  obtain ⟨_, _, _, _, _, _, _, tok2, _⟩ := id hL2
  have A1 : ∀ {H'}, Ex H3 H' → Ask P w B N S F T1 H' a x1 := fun e => ⟨hN, (E3.trans e) _ _ ha, hL1.mono e, by omega, by omega⟩
  have A2 : ∀ {H'}, Ex H3 H' → Ask P w B N (ngS S) F.mir T2 H' a x2 := fun e => ⟨hN, (E3.trans e) _ _ ha, hL2.mono e, by omega, by rw [mir_ht]; omega⟩
  have hF3 := hF.mono E3
  refine ⟨_, _, rfl, ?_⟩
  refine ⟨_, rfl, _, rfl, on_made (k := .least c) (A1 (Ex.refl _)) hF3 (fun x H Q h => ⟨x, f, c, N, rfl, hN, hc, h⟩) hk (ok0 fun _ _ => nofun) rfl rfl fun v H4 e4 hv => ?_⟩
  obtain ⟨lo, rfl, hlo⟩ := hv
  refine ⟨_, rfl, _, rfl, mir_at (hF3.mono e4) fh hN sl fl fun y H5 e5 hy => ?_⟩
  have E5 := e4.trans e5
  refine on_made (k := .greatest c) (A2 E5) hy (fun x H Q h => ⟨x, y, c, N, rfl, hN, hc, h⟩) hk (ok0 fun _ _ => nofun) rfl rfl fun v H6 e6 hv => ?_
  obtain ⟨gr, rfl, hgr⟩ := hv
  have E6 := E5.trans e6
  have back : gr.map (fun v => 0 - v) = lo := least_back q1 q2 tok1.pos tok2.pos hlo hgr
  suffices rest : _ by
    cases gr with
    | none =>
      obtain rfl : none = lo := back
      exact ⟨_, rfl, _, rfl, iteT ⟨_, rfl, rfl, false, rfl, iteF rest⟩⟩
    | some g =>
      obtain rfl : some (0 - g) = lo := back
      exact ⟨_, rfl, _, rfl, iteF ⟨_, rfl, 0, g, rfl, rfl, _, rfl, rfl, false, congrArg (fun b => V.bl (!b)) (decide_eq_true rfl), iteF rest⟩⟩
  refine ⟨_, rfl, on_made (k := .many) (A1 E6) (hF3.mono E6) (fun x H Q h => ⟨x, f, rfl, h⟩) (fun c h => nomatch h) (ok0 fun _ _ => nofun) rfl rfl fun v H7 e7 hv => ?_⟩
  obtain rfl : v = .int (many (ms F N none T1)) := hv
  have E7 := E6.trans e7
  refine ⟨_, rfl, mir_at (hF3.mono E7) fh hN sl fl fun y2 H8 e8 hy2 => ?_⟩
  have E8 := E7.trans e8
  refine on_made (k := .many) (A2 E8) hy2 (fun x H Q h => ⟨x, y2, rfl, h⟩) (fun c h => nomatch h) (ok0 fun _ _ => nofun) rfl rfl fun v H9 e9 hv => ?_
  obtain rfl : v = .int (many (ms F.mir N none T2)) := hv
  have E9 := E8.trans e9
  refine ⟨rfl, false, congrArg (fun b => V.bl (!b)) (decide_eq_true (by rw [many_back q1 q2])), iteF ?_⟩
  refine ⟨_, rfl, _, rfl, on_made (k := .total c) (A1 E9) (hF3.mono E9) (fun x H Q h => ⟨x, f, c, N, rfl, hN, hc, h⟩) hk (ok0 fun _ _ => nofun) rfl rfl fun v H10 e10 hv => ?_⟩
  obtain rfl : v = .int (total (ms F N (some c) T1)) := hv
  have E10 := E9.trans e10
  refine ⟨_, rfl, _, rfl, mir_at (hF3.mono E10) fh hN sl fl fun y3 H11 e11 hy3 => ?_⟩
  have E11 := E10.trans e11
  refine on_made (k := .total c) (A2 E11) hy3 (fun x H Q h => ⟨x, y3, c, N, rfl, hN, hc, h⟩) hk (ok0 fun _ _ => nofun) rfl rfl fun v H12 e12 hv => ?_
  obtain rfl : v = .int (total (ms F.mir N (some c) T2)) := hv
  refine ⟨_, _, rfl, rfl, rfl, ?_⟩
  show Q (.bl (decide (V.int (total (ms F N (some c) T1) + total (ms F.mir N (some c) T2)) = V.int 0))) H12
  rw [total_back q1 q2, decide_eq_true rfl]
  exact q H12 ((E3.trans E11).trans e12)
end
end Hs
set_option Elab.async false
set_option linter.all false
set_option maxRecDepth 100000
set_option maxHeartbeats 4000000
/-! Answers as data; joined. -/
namespace Hs
open PySem PySem.Spec PyProof.Rows L2
def jk : Kd → Bool
  | .some | .many | .total _ | .top _ _ => true
  | _ => false
def AD (k : Kd) (M : ML) (d : PyData) : Prop := match k with
  | .some => d = .bool (decide (0 < M.length))
  | .many => d = .int (many M)
  | .total _ => d = .int (total M)
  | .top m _ => ∃ L : List Int, d = .tuple (L.map PyData.int) ∧ IsTop m.toNat (flat m.toNat M) L
  | _ => False
theorem ad_one {k : Kd} {M M' : ML} {d d' : PyData} (e : Eqv M M') (p : AllPos M) (p' : AllPos M') (h : AD k M d) (h' : AD k M' d') : d = d' := by
  cases k with
  | some =>
    have h : d = _ := h
    have h' : d' = _ := h'
    rw [h, h', decide_eq_decide.mpr (some_eqv e p p')]
  | many =>
    have h : d = _ := h
    have h' : d' = _ := h'
    rw [h, h', many_eqv e]
  | total c =>
    have h : d = _ := h
    have h' : d' = _ := h'
    rw [h, h', total_eqv e]
  | top m c =>
    obtain ⟨L, rfl, h⟩ := h
    obtain ⟨L', rfl, h'⟩ := h'
    rw [top_one e p p' h h']
  | _ => exact h.elim
theorem top_joined2 {q : Nat} {M M' MW : ML} {L L' J W : List Int} (e : Eqv MW (M ++ M')) (hp : AllPos M) (hp' : AllPos M') (hw0 : AllPos MW) (h : IsTop q (flat q M) L) (h' : IsTop q (flat q M') L') (hj : IsTop q (L ++ L') J) (hw : IsTop q (flat q MW) W) : J = W :=
  desc_one hj.desc hw.desc fun v => by
    have h0 : 0 ≤ mu M (geI v) := mu_nonneg hp fun r _ => geI_nn v r.1
    have h1 : 0 ≤ mu M' (geI v) := mu_nonneg hp' fun r _ => geI_nn v r.1
    rw [hj.cge, cge_append, top_cge hp h, top_cge hp' h', top_cge hw0 hw, e, mu_append]
    omega
section
variable {P : Program} {w : World} {K : PySem.W.Frag} {mg : Str → Option Value} {base : Heap} {A : Df → Addr} {B Z : Cl → Addr}
/-- a value that is this data from here on -/
structure VD (K : PySem.W.Frag) (H : Hp) (v : V) (d : PyData) : Prop where
  sh : SeqAt.shaped d = true
  dp : ∀ H', Ex H H' → Dp K H' v d
theorem VD.mono {H H' : Hp} {v : V} {d : PyData} (h : VD K H v d) (e : Ex H H') : VD K H' v d := ⟨h.sh, fun H'' e' => h.dp H'' (e.trans e')⟩
theorem VD.tup {H : Hp} {t : Addr} {L : List Int} (h : H t = some (.tup (L.map V.int))) : VD K H (.ref t) (.tuple (L.map PyData.int)) := ⟨sh_tints L, fun H' e => .tup (SqT.of (e _ _ h)) (dp_ints L)⟩
theorem ans_d {k : Kd} {M : ML} {v : V} {H : Hp} (hj : jk k = true) (h : Ans k M v H) : ∃ d, AD k M d ∧ VD K H v d := by
  cases k with
  | some =>
    obtain rfl : v = _ := h
    exact ⟨_, rfl, rfl, fun _ _ => .bl _⟩
  | many =>
    obtain rfl : v = _ := h
    exact ⟨_, rfl, rfl, fun _ _ => .int _⟩
  | total c =>
    obtain rfl : v = _ := h
    exact ⟨_, rfl, rfl, fun _ _ => .int _⟩
  | top m c =>
    obtain ⟨t, L, rfl, ht, hL⟩ := h
    exact ⟨_, ⟨L, rfl, hL⟩, VD.tup ht⟩
  | _ => cases hj
/-- two values of one data are not unlike -/
theorem ne_vd {H : Hp} {x y : V} {d d' : PyData} {R : V → Hp → Prop} (h : VD K H x d) (h' : VD K H y d') (e : d = d') (q : R (.bl false) H) : rNeD K x y H R := by
  subst e
  refine ⟨d, d, h.dp H (Ex.refl H), h'.dp H (Ex.refl H), h.sh, h.sh, ?_⟩
  rw [SeqAt.eqv_refl d (SeqAt.canLay_of_shaped h.sh)]
  exact q
/-! ### joined -/
def Kd.jdf : Kd → Df
  | .some => .dSome_joined
  | .top _ _ => .dTop_joined
  | _ => .dQuestion_joined
def spJk (B : Cl → Addr) : Kd → Sp
  | .some => spJoA
  | .top m c => spJoT B m c
  | .many => spJoS
  | .total _ => spJoS
  | _ => fun _ _ _ _ => False
theorem ok_jk (T : Txt P K mg A B Z) (k : Kd) : FnR P w K mg base CX0 1 (A k.jdf) (spJk B k) := by
  cases k with
  | some => exact ok_joS T
  | many => exact ok_joQ T
  | total c => exact ok_joQ T
  | top m c => exact ok_joT T m c
  | _ => exact fun A outer s H us vs Q E hr e0 r h => h.elim
def GoodJ (B : Cl → Addr) (C : Addr) : Prop := ∃ k : Kd, C = B k.cl ∧ jk k = true
def spJs (B : Cl → Addr) : Addr → Sp := fun C vs H Q E => ∃ k : Kd, B k.cl = C ∧ spJk B k vs H Q E
theorem jdf_cl {k k' : Kd} (h : k'.cl = k.cl) : k'.jdf = k.jdf := by
  cases k <;> cases k' <;> first | rfl | exact nomatch h
theorem joined_all (T : Txt P K mg A B Z) : MAny P w K mg base "joined" 1 (spJs B) (GoodJ B) := by
  rintro C ⟨k, rfl, hj⟩
  refine ⟨T.cls _, A k.jdf, ⟨T.fnd k.cl .mjoined _ (by cases k <;> first | rfl | cases hj), T.isF _, (T.dk _).kp⟩, ?_⟩
  refine (fnr_ex (ι := {k' : Kd // k'.cl = k.cl}) (sps := fun k' => spJk B k'.1) fun k' => ?_).imp fun vs H Q E h => ?_
  · obtain ⟨k', hk⟩ := k'
    have e : k'.jdf = k.jdf := jdf_cl hk
    have := ok_jk (P := P) (w := w) (base := base) T k'
    rw [e] at this
    exact this
  · obtain ⟨k', hk, h⟩ := h
    exact ⟨⟨k', T.inj _ _ hk⟩, h⟩
theorem joined_at {k : Kd} {N : List Str} {S : List Int} {F : Flt} {M1 M2 : ML} {q : Addr} {va vb : V} {Ha H : Hp} {Q : VK} (hj : jk k = true) (ok : KdOk k) (hq : QAt B N S H k F q) (p1 : AllPos M1) (p2 : AllPos M2) (ha : Ans k M1 va Ha) (e : Ex Ha H) (hb : Ans k M2 vb H)
    (qq : ∀ v d H', Ex H H' → VD K H' v d → (∀ MW dW, Eqv MW (M1 ++ M2) → AllPos MW → AD k MW dW → d = dW) → Q v H') : spJk B k [.ref q, va, vb] H Q E0 := by
  cases k with
  | some =>
    obtain rfl : va = _ := ha
    obtain rfl : vb = _ := hb
    refine ⟨q, [decide (0 < M1.length), decide (0 < M2.length)], rfl, (by show 2 ≤ 1000; decide), fun H' e' => qq _ _ H' e' ⟨rfl, fun _ _ => .bl _⟩ fun MW dW eW pW hW => ?_⟩
    have hW : dW = .bool (decide (0 < MW.length)) := hW
    have h1 := some_eqv eW pW (p1.app p2)
    rw [List.length_append] at h1
    rw [hW]
    congr 1
    show (decide (0 < M1.length) || (decide (0 < M2.length) || false)) = decide (0 < MW.length)
    rw [Bool.or_false, Bool.eq_iff_iff]
    simp only [Bool.or_eq_true, decide_eq_true_eq]
    omega
  | many =>
    obtain rfl : va = _ := ha
    obtain rfl : vb = _ := hb
    refine ⟨q, [many M1, many M2], rfl, (by show 2 ≤ 1000; decide), fun H' e' => qq _ _ H' e' ⟨rfl, fun _ _ => .int _⟩ fun MW dW eW pW hW => ?_⟩
    have hW : dW = .int (many MW) := hW
    rw [hW, many_eqv eW, many_append]
    congr 1
    show many M1 + (many M2 + 0) = _
    omega
  | total c =>
    obtain rfl : va = _ := ha
    obtain rfl : vb = _ := hb
    refine ⟨q, [total M1, total M2], rfl, (by show 2 ≤ 1000; decide), fun H' e' => qq _ _ H' e' ⟨rfl, fun _ _ => .int _⟩ fun MW dW eW pW hW => ?_⟩
    have hW : dW = .int (total MW) := hW
    rw [hW, total_eqv eW, total_append]
    congr 1
    show total M1 + (total M2 + 0) = _
    omega
  | top m c =>
    obtain ⟨ta, La, rfl, hta, hLa⟩ := ha
    obtain ⟨tb, Lb, rfl, htb, hLb⟩ := hb
    obtain ⟨dx, f, hq, hF⟩ := hq
    obtain ⟨m1, m4⟩ := ok m c rfl
    have l1 := hLa.len
    have l2 := hLb.len
    have fl : ([(ta, La), (tb, Lb)] : TL).flatMap (·.2) = La ++ Lb := by simp
    refine ⟨q, dx, f, [(ta, La), (tb, Lb)], rfl, hq, fun x hx => ?_, (by show 2 ≤ 100; decide), by rw [fl, List.length_append]; omega, m1, fun t L H' e' ht hL => qq _ _ H' e' (VD.tup ht) fun MW dW eW pW hW => ?_⟩
    · rcases List.mem_cons.mp hx with rfl | hx
      · exact e _ _ hta
      · rw [List.mem_singleton.mp hx]; exact htb
    · obtain ⟨W, rfl, hW⟩ := hW
      rw [fl] at hL
      rw [top_joined2 eW p1 p2 pW hLa hLb hL hW]
  | _ => cases hj
end
end Hs
set_option Elab.async false
set_option linter.all false
set_option maxRecDepth 100000
set_option maxHeartbeats 4000000
/-! The law's one round. -/
namespace Hs
open PySem PySem.Spec PyProof.Rows L2
section
variable {P : Program} {w : World} {K : PySem.W.Frag} {mg : Str → Option Value} {base : Heap} {A : Df → Addr} {B Z : Cl → Addr}
section
variable {N : List Str} {S : List Int} {H H' : Hp} {c p : Addr} {b : Int}
theorem PenAt.nx {a C dx : Addr} {fs : List (Str × V)} (h : PenAt H c b p) (ha : H a = some (.ins C dx fs)) : a ≠ p := by
  obtain ⟨cs, at_, g, h1, _⟩ := h
  exact fun z => by rw [z, h1] at ha; cases ha
theorem Hd.exp {t1 t2 t3 : Addr} {ks : List Int} (h : Hd N S H t1 t2 t3 ks) (hp : PenAt H c b p) (e : ExB p H H') : Hd N S H' t1 t2 t3 ks := by
  obtain ⟨cs, c1, c2⟩ := h.cs
  obtain ⟨ls, l1, l2⟩ := h.ls
  exact ⟨⟨cs, e _ _ (hp.ne c1) c1, c2⟩, e _ _ (hp.ne h.kt) h.kt, h.kn, h.ks, ⟨ls, e _ _ (hp.ne l1) l1, l2.imp id fun ⟨q, h1, h2, h3⟩ => ⟨q, h1, e _ _ (hp.ne h2) h2, h3⟩⟩⟩
theorem Rest.exp (hp : PenAt H c b p) (e : ExB p H H') : ∀ {F : Flt} {ks : List Int} {r : List (Str × V)}, Rest B N S H ks F r → Rest B N S H' ks F r := by
  intro F
  induction F with
  | cmp o a b => exact fun h => h
  | among c vs => exact fun h => h
  | missing c => exact fun h => h
  | fixed b => exact fun h => h
  | turned f ih =>
    rintro ks r ⟨q, dx, t1, t2, t3, ks', r', h1, h2, h3, h4⟩
    exact ⟨q, dx, t1, t2, t3, ks', r', h1, e _ _ (hp.nx h2) h2, h3.exp hp e, ih h4⟩
  | both f g ih1 ih2 =>
    rintro ks r ⟨q, dx, t1, t2, t3, ks', r', q', ex, u1, u2, u3, ls', r'', h1, h2, h3, h4, h5, h6, h7⟩
    exact ⟨q, dx, t1, t2, t3, ks', r', q', ex, u1, u2, u3, ls', r'', h1, e _ _ (hp.nx h2) h2, h3.exp hp e, ih1 h4, e _ _ (hp.nx h5) h5, h6.exp hp e, ih2 h7⟩
  | either f g ih1 ih2 =>
    rintro ks r ⟨q, dx, t1, t2, t3, ks', r', q', ex, u1, u2, u3, ls', r'', h1, h2, h3, h4, h5, h6, h7⟩
    exact ⟨q, dx, t1, t2, t3, ks', r', q', ex, u1, u2, u3, ls', r'', h1, e _ _ (hp.nx h2) h2, h3.exp hp e, ih1 h4, e _ _ (hp.nx h5) h5, h6.exp hp e, ih2 h7⟩
theorem FltAt.exp {F : Flt} {f : Addr} (h : FltAt B N S H F f) (hp : PenAt H c b p) (e : ExB p H H') : FltAt B N S H' F f := by
  obtain ⟨dx, t1, t2, t3, ks, r, h1, h2, h3⟩ := h
  exact ⟨dx, t1, t2, t3, ks, r, e _ _ (hp.nx h1) h1, h2.exp hp e, h3.exp hp e⟩
theorem PrsAt.exp {n : Nat} {ps : PL} (h : PrsAt n H ps) (hp : PenAt H c b p) (e : ExB p H H') : PrsAt n H' ps := fun x hx => ⟨(h x hx).1.exp hp e, (h x hx).2⟩
end
def spRt : Sp := fun vs H Q _ => ∃ (p c : Addr) (b : Int), vs = [.ref p] ∧ PenAt H c b p ∧ b < 700000 ∧ ∀ H', ExB p H H' → PenAt H' c (b + 1000) p → Q (.bl true) H'
theorem sc_rt : FnScope ["_law_pen_here", "_law_names", "_law_marks", "_law_asked_so", "_law_column", "_law_one", "_law_other", "_law_whole", "_law_made_so", "_law_told", "_law_again"] ["_law_pen_here"] (defScope (Df.st .dlaw_right)) := ⟨rfl, rfl, rfl, by decide +kernel, rfl, by decide +kernel, by decide +kernel⟩
theorem ok_rt (T : Txt P K mg A B Z) : FnR P w K mg base CX0 11 (A .dlaw_right) spRt := by
  refine (T.d0 .dlaw_right).fn sc_rt (fun _ _ _ _ _ _ us h => by obtain ⟨a, rfl⟩ := len1 h; rfl) (fun vs H Q E h => by obtain ⟨_, _, _, rfl, _⟩ := h; rfl) fun cdv Ar outer s H vs Q E hr h => ?_
  obtain ⟨p, c, b, rfl, hp, hb, q⟩ := h
  have nd := sc_rt.nd
  have hr1 : Room 1 _ := hr.mono (j := 1) (by decide)
  have hr2 : Room 2 _ := hr.mono (j := 2) (by decide)
  have hr3 : Room (2 + 1) _ := hr.mono (j := 3) (by decide)
  have hr4 : Room (3 + 1) _ := hr.mono (j := 4) (by decide)
  have hr5 : Room 5 _ := hr.mono (j := 5) (by decide)
  have hr8 : Room 8 _ := hr.mono (j := 8) (by decide)
  have hro : Room (3 + 5) _ := hr.mono (j := 8) (by decide)
  have hr9 : Room 9 _ := hr.mono (j := 9) (by decide)
  have mMany := T.mkC .cMany (d := .dMany_init) rfl
  have mSome := T.mkC .cSome (d := .dSome_init) rfl
  have mTo := T.mkC .cTotal (d := .dTotal_init) rfl
  have mTop := T.mkC .cTop (d := .dTop_init) rfl
  have okL : FnR P w K mg base CX0 9 (A .dlaw_lots) (fun vs H Q E => ∃ n, spLots P w K B n vs H Q E) := fnr_ex fun n => ok_lots T n
  have okD : FnR P w K mg base CX0 3 (A .dlaw_drawn_pairs) (fun vs H Q E => ∃ n, spDrP n vs H Q E) := fnr_ex fun n => ok_drp T n
  refine ⟨_, pss_cons (ps_set (i := 1) nd rfl (.inl rfl) (pe_fn (ok_pick T) hr2 rfl (T.gD .dlaw_pick rfl) (T.dk .dlaw_pick).kp (pa_cons (pv 0) (pa_cons (pe_lst (pa_cons (pe_tup (pa_cons pe_str pa_nil)) (pa_cons (pe_tup (pa_cons pe_str (pa_cons pe_str pa_nil))) (pa_cons (pe_tup (pa_cons pe_str (pa_cons pe_str pa_nil))) pa_nil)))) pa_nil))))
    (pss_cons (ps_setLc (i := 2) (own := [("_law_again", 10)]) (g := gName 10) (tt := tYes) (te := tOp (rI0 fun i j => .int (i - j)) (tCR spDraw (tCons (tVar 0) (tCons (tC (.int 7)) tNil))) (tC (.int 1))) rfl nd rfl rfl (sw_true rfl rfl rfl (by decide +kernel)) (pi_range1 (by rfl) (T.blt _ (by decide)) (pa_cons pe_int pa_nil))
        (blkOk_by (N := ["_law_pen_here", "_law_names", "_law_marks", "_law_asked_so", "_law_column", "_law_one", "_law_other", "_law_whole", "_law_made_so", "_law_told", "_law_again"]) (sc := defScope (Df.st .dlaw_right)) (by decide +kernel))
        (fun _ _ _ _ _ => pg_name (i := 10) nd rfl (.inl rfl)) (fun _ _ _ _ _ => pts_nil) (fun _ _ _ _ _ => pe_op op_sub (pe_fn (ok_draw T) (by exact hr1) rfl (T.gD .dlaw_draw rfl) (T.dk .dlaw_draw).kp (pa_cons (pv 0) (pa_cons pe_int pa_nil))) pe_int))
    (pss_cons (ps_par (i := 3) (j := 4) rfl nd rfl rfl (by decide) rfl rfl
      (pa_cons (pe_fn (ok_te1 T) hr8 rfl (T.gD .dlaw_test rfl) (T.dk .dlaw_test).kp (pa_cons (pe_fn (ok_dt1 T) hr5 rfl (T.gD .dlaw_drawn_test rfl) (T.dk .dlaw_drawn_test).kp (pa_cons (pv 0) (pa_cons (pe_callTy call_list_of rfl (T.blt _ (by decide)) (by decide +kernel) (pa_cons (pv 1) pa_nil)) (pa_cons (pv 2) (pa_cons pe_int pa_nil))))) pa_nil))
      (pa_cons (pe_fn (ok_pick T) hr2 rfl (T.gD .dlaw_pick rfl) (T.dk .dlaw_pick).kp (pa_cons (pv 0) (pa_cons (pe_callTy call_list_of rfl (T.blt _ (by decide)) (by decide +kernel) (pa_cons (pv 1) pa_nil)) pa_nil))) pa_nil)) (by rfl))
    (pss_cons (ps_par (i := 5) (j := 6) rfl nd rfl rfl (by decide) rfl rfl
      (pa_cons (pe_fn okD hr3 rfl (T.gD .dlaw_drawn_pairs rfl) (T.dk .dlaw_drawn_pairs).kp (pa_cons (pv 0) (pa_cons (pe_callB call_len_seq rfl (T.blt _ (by decide)) PySem.boot_len (pa_cons (pv 1) pa_nil)) (pa_cons pe_int pa_nil))))
      (pa_cons (pe_fn okD hr3 rfl (T.gD .dlaw_drawn_pairs rfl) (T.dk .dlaw_drawn_pairs).kp (pa_cons (pv 0) (pa_cons (pe_callB call_len_seq rfl (T.blt _ (by decide)) PySem.boot_len (pa_cons (pv 1) pa_nil)) (pa_cons pe_int pa_nil)))) pa_nil)) (by rfl))
    (pss_cons (ps_set (i := 7) nd rfl (.inl rfl) (pe_fn okL hr9 rfl (T.gD .dlaw_lots rfl) (T.dk .dlaw_lots).kp (pa_cons (pe_op op_cat (pv 5) (pv 6)) pa_nil)))
    (pss_cons (ps_for PassesOwn.never rfl (pi_list (pe_lst (pa_cons (pe_mk mSome (ok_Si T) hr3 rfl (T.gC .cSome) (pa_cons (pv 3) pa_nil)) (pa_cons (pe_mk mMany (ok_Ni T) hr3 rfl (T.gC .cMany) (pa_cons (pv 3) pa_nil)) (pa_cons (pe_mk mTo (ok_Total T) hr4 rfl (T.gC .cTotal) (pa_cons (pv 4) (pa_cons (pv 3) pa_nil))) (pa_cons (pe_mk mTop (ok_Top T) hr4 rfl (T.gC .cTop) (pa_cons pe_int (pa_cons (pv 4) (pa_cons (pv 3) pa_nil)))) pa_nil)))))) (pg_name (i := 8) nd rfl (.inl rfl))
      (pss_cons (ps_set (i := 9) nd rfl (.inl rfl) (pe_ma (pv 8) (on_any T 3) hro (pa_cons (pv 1) (pa_cons (pv 7) pa_nil))))
      (pss_cons (ps_if (pt_cmpR (op_neD hr.units) (pe_ma (pv 8) (on_any T 3) hro (pa_cons (pv 1) (pa_cons (pe_fn okL hr9 rfl (T.gD .dlaw_lots rfl) (T.dk .dlaw_lots).kp (pa_cons (pv 6) pa_nil)) (pa_cons (pe_fn okL hr9 rfl (T.gD .dlaw_lots rfl) (T.dk .dlaw_lots).kp (pa_cons (pv 5) pa_nil)) pa_nil)))) (pv 9) (nomark _)) pss_never pss_nil)
      (pss_one (ps_if (pt_cmpR (op_neD hr.units) (pe_ma (pv 8) (joined_all T) hr1 (pa_cons (pe_ma (pv 8) (on_any T 3) hro (pa_cons (pv 1) (pa_cons (pe_fn okL hr9 rfl (T.gD .dlaw_lots rfl) (T.dk .dlaw_lots).kp (pa_cons (pv 5) pa_nil)) pa_nil)))
        (pa_cons (pe_ma (pv 8) (on_any T 3) hro (pa_cons (pv 1) (pa_cons (pe_fn okL hr9 rfl (T.gD .dlaw_lots rfl) (T.dk .dlaw_lots).kp (pa_cons (pv 6) pa_nil)) pa_nil))) pa_nil))) (pv 9) (nomark _)) pss_never pss_nil)))))
    (pss_cons (ps_if (PW.pt (pw_or (pt_not (pt_val (pe_fn (ok_rr T) hr9 rfl (T.gD .dlaw_rows_right rfl) (T.dk .dlaw_rows_right).kp (pa_cons (pv 0) (pa_cons (pv 1) (pa_cons (pv 3) (pa_cons (pv 7) pa_nil)))))))
        (pw_or1 (pt_not (pt_val (pe_fn (ok_vr T) hr9 rfl (T.gD .dlaw_values_right rfl) (T.dk .dlaw_values_right).kp (pa_cons (pv 0) (pa_cons (pv 1) (pa_cons (pv 3) (pa_cons (pv 7) (pa_cons (pv 4) pa_nil)))))))))))
        pss_never pss_nil)
    (pss_one (ps_ret (pe_fn (ok_tr T) hr rfl (T.gD .dlaw_turned_right rfl) (T.dk .dlaw_turned_right).kp (pa_cons (pv 1) (pa_cons (pv 3) (pa_cons (pv 5) (pa_cons (pv 4) pa_nil))))))))))))), ?_⟩
  -- the names
  refine ⟨_, rfl, one_le, fun t1 ht1 => ⟨two_le, fun t2 ht2 => ⟨two_le, fun t3 ht3 => ⟨three_le, fun s0 hs0 => ?_⟩⟩⟩⟩
  have n1 := Ex.new (o := .tup [.str "x"]) ht1
  have n2 := Ex.new (o := .tup [.str "x", .str "y"]) ht2
  have n3 := Ex.new (o := .tup [.str "a", .str "zz"]) ht3
  have n4 := Ex.new (o := .lst [.ref t1, .ref t2, .ref t3]) hs0
  have n := ((n1.trans n2).trans n3).trans n4
  have hp0 := hp.ex n
  refine ⟨p, s0, c, b, _, rfl, hp0, SqL.of upd_same, (((hp.ex n1).ex n2).ex n3).nn hs0, (by show 0 < 3; decide), (by show 3 < 1000; decide), by omega, fun v H1 e1 hp1 hv => ?_⟩
  have E1 : ExB p H H1 := (ex_b n).trans e1
  obtain ⟨a, N, rfl, hN, ha⟩ : ∃ a N, v = .ref a ∧ N ∈ Ns ∧ H1 a = some (.tup (N.map V.str)) := by
    rcases List.mem_cons.mp hv with rfl | hv
    · have g := n4 _ _ (n3 _ _ (n2 _ _ upd_same))
      exact ⟨t1, ["x"], rfl, (by decide +kernel), e1 _ _ (hp0.ne g) g⟩
    rcases List.mem_cons.mp hv with rfl | hv
    · have g := n4 _ _ (n3 _ _ upd_same)
      exact ⟨t2, ["x", "y"], rfl, (by decide +kernel), e1 _ _ (hp0.ne g) g⟩
    · rw [List.mem_singleton.mp hv]
      have g := n4 _ _ upd_same
      exact ⟨t3, ["a", "zz"], rfl, (by decide +kernel), e1 _ _ (hp0.ne g) g⟩
  have nl := ns_len3 hN
  have N0 : 0 < (N.map V.str).length ∧ (N.map V.str).length < 1000 := by rw [List.length_map]; omega
  -- the marks
  refine ⟨2, rfl, by decide, by decide, fun D hD => lc_it walk_range (fun j H' => ExB p H1 H' ∧ PenAt H' c (b + 1 + j) p ∧ ∃ r : List Int, H' D = some (.lst (r.map V.int)) ∧ r.length = j) ⟨ex_b (Ex.new hD), (hp1.ex (Ex.new hD)).le (by omega), [], upd_same, rfl⟩ (fun _ _ _ _ => trivial) (fun j x H2 H3 hj q2 y => ?_) (fun H2 q2 => ?_)⟩
  · obtain ⟨rfl, rfl⟩ := y
    obtain ⟨e2, hp2, r, k1, k2⟩ := q2
    have hj2 : j < 2 := hj
    have dp : D ≠ p := hp1.nn hD
    have dc : c ≠ D := by
      obtain ⟨cs, at_, g, g1, g2, _⟩ := hp1
      exact fun z => by rw [z, hD] at g2; cases g2
    refine ⟨rfl, _, rfl, p, c, 7, _, rfl, hp2, by decide, by decide, by omega, fun d H4 e4 hp4 d0 d1 => ⟨d, 1, rfl, rfl, _, e4 _ _ dp k1, by rw [List.length_map, k2, sizeLine_eq]; omega, ?_, ?_, r ++ [d - 1], by rw [upd_same, List.map_append]; rfl, by rw [List.length_append, k2]; rfl⟩⟩
    · exact fun a o na h => by
        rw [upd_ne (ne_of_none h hD)]
        exact e4 a o na (e2 a o na h)
    · obtain ⟨cs, at_, g, g1, g2, g3, g4, g5, g6⟩ := hp4
      exact ⟨cs, at_, g, by rw [upd_ne dp.symm]; exact g1, by rw [upd_ne dc]; exact g2, g3, g4, by omega, g6⟩
  obtain ⟨e2, hp2, r, k1, k2⟩ := q2
  have hp2 : PenAt H2 c (b + 3) p := hp2.le (by omega)
  obtain ⟨m1, m2, rfl⟩ := len2 (us := r) (by omega)
  have E2 := E1.trans e2
  have ha2 := e2 _ _ (hp1.ne ha) ha
  have dB1 : dB 1 = 60 := by decide
  -- the filter and the column
  refine ⟨_, rfl, _, rfl, a, _, rfl, .inr (SqT.of ha2), fun l3 hl3 => ⟨_, rfl, ?_⟩⟩
  have n5 := Ex.new (o := .lst (N.map V.str)) hl3
  refine ⟨p, c, l3, D, _, m1, m2, N, rfl, hp2.ex n5, upd_same, hN, n5 _ _ k1, by omega, fun t F H4 e4 hp4 hDt fh fl => ?_⟩
  have fl : F.leaves ≤ 2 := fl
  refine ⟨t, N, [m1, m2], F, rfl, hDt, hN, (by show 2 ≤ 4; decide), fh, by omega, fun f H5 e5 hF => ?_⟩
  have E5 := ((E2.ex n5).trans e4).ex e5
  have hp5 := hp4.ex e5
  have ha5 := e5 _ _ (e4 _ _ ((hp2.ex n5).ne (n5 _ _ ha2)) (n5 _ _ ha2))
  refine ⟨_, rfl, _, rfl, a, _, rfl, .inr (SqT.of ha5), fun l6 hl6 => ?_⟩
  have n6 := Ex.new (o := .lst (N.map V.str)) hl6
  refine ⟨p, l6, c, _, N.map V.str, rfl, hp5.ex n6, SqL.of upd_same, hp5.nn hl6, N0.1, N0.2, by omega, fun v H7 e7 hp7 hv => ?_⟩
  obtain ⟨col, hcol, rfl⟩ := List.mem_map.mp hv
  have E7 := (E5.ex n6).trans e7
  have ha7 := e7 _ _ ((hp5.ex n6).ne (n6 _ _ ha5)) (n6 _ _ ha5)
  have hF7 := (hF.mono n6).exp (hp5.ex n6) e7
  refine ⟨_, _, rfl, ?_⟩
  -- the pairs
  refine ⟨_, rfl, _, rfl, a, _, rfl, .inr (SqT.of ha7), N.length, p, c, 5, _, by rw [List.length_map], hp7, nl.1, nl.2, by decide, by decide, by omega, fun l1 ps1 H8 e8 hp8 lp1 hl1 hps1 dr1 k5 => ?_⟩
  have ha8 := e8 _ _ (hp7.ne ha7) ha7
  refine ⟨_, rfl, _, rfl, a, _, rfl, .inr (SqT.of ha8), N.length, p, c, 4, _, by rw [List.length_map], hp8, nl.1, nl.2, by decide, by decide, by omega, fun l2 ps2 H9 e9 hp9 lp2 hl2 hps2 dr2 k4 => ?_⟩
  have hl1 := e9 _ _ lp1 hl1
  have hps1 := hps1.exp hp8 e9
  have ha9 := e9 _ _ (hp8.ne ha8) ha8
  have hF9 := (hF7.exp hp7 e8).exp hp8 e9
  have E9 := (E7.trans e8).trans e9
  have k5 : ps1.length ≤ 5 := by omega
  have k4 : ps2.length ≤ 4 := by omega
  refine ⟨_, _, rfl, ?_⟩
  -- the whole
  refine ⟨_, rfl, _, rfl, l1, l2, refs ps1, refs ps2, rfl, rfl, hl1, hl2, by unfold refs; rw [List.length_map, List.length_map, sizeLine_eq]; omega, fun l0 hl0 => ?_⟩
  have n0 := Ex.new (o := .lst (refs ps1 ++ refs ps2)) hl0
  have ref12 : refs ps1 ++ refs ps2 = refs (ps1 ++ ps2) := by unfold refs; rw [List.map_append]
  have hps : PrsAt N.length (upd H9 l0 (.lst (refs ps1 ++ refs ps2))) (ps1 ++ ps2) := fun x hx => (List.mem_append.mp hx).elim ((hps1.mono n0) x) ((hps2.mono n0) x)
  have dr : DrB (ps1 ++ ps2) := fun x hx => (List.mem_append.mp hx).elim (dr1 x) (dr2 x)
  have len12 : (ps1 ++ ps2).length ≤ 9 := by rw [List.length_append]; omega
  have ll0 : SqL K (upd H9 l0 (.lst (refs ps1 ++ refs ps2))) l0 (refs (ps1 ++ ps2)) := by rw [← ref12]; exact SqL.of upd_same
  refine ⟨N.length, l0, ps1 ++ ps2, rfl, ll0, hps, tab_ok hps dr (by omega), nl.1, nl.2, by omega, fun xw Tw H10 e10 hLw qw nw => ?_⟩
  rw [List.map_append] at qw
  have E10 := n0.trans e10
  have tk1 := tab_ok hps1 dr1 (by omega)
  have tk2 := tab_ok hps2 dr2 (by omega)
  obtain ⟨_, _, _, _, _, _, _, tokw, _⟩ := id hLw
  have hF10 := hF9.mono E10
  -- the contents of the drawn pairs, from here on
  have one : ∀ {H' : Hp} {Q : VK}, Ex H9 H' → (∀ x T1 H2, Ex H' H2 → LotsAt P w B N.length H2 T1 x → Eqv T1 (ps1.map (·.2)) → T1.length ≤ 5 → Q (.ref x) H2) → ∃ n, spLots P w K B n [.ref l1] H' Q E0 := fun e q => ⟨N.length, l1, ps1, rfl, SqL.of (e _ _ hl1), hps1.mono e, tk1, nl.1, nl.2, by omega, fun x T1 H2 e2 h1 h2 h3 => q x T1 H2 e2 h1 h2 (by omega)⟩
  have two : ∀ {H' : Hp} {Q : VK}, Ex H9 H' → (∀ x T1 H2, Ex H' H2 → LotsAt P w B N.length H2 T1 x → Eqv T1 (ps2.map (·.2)) → T1.length ≤ 4 → Q (.ref x) H2) → ∃ n, spLots P w K B n [.ref l2] H' Q E0 := fun e q => ⟨N.length, l2, ps2, rfl, SqL.of (e _ _ hl2), hps2.mono e, tk2, nl.1, nl.2, by omega, fun x T1 H2 e2 h1 h2 h3 => q x T1 H2 e2 h1 h2 (by omega)⟩
  have ask : ∀ {H'}, Ex H10 H' → Ask P w B N [m1, m2] F Tw H' a xw := fun e => ⟨hN, (E10.trans e) _ _ ha9, hLw.mono e, by omega, by omega⟩
  have hkc : ∀ c', some col = some c' → c' ∈ N := fun c' h => by cases h; exact hcol
  -- the four questions
  refine ⟨_, rfl, fun q1 dx1 hx1 hd1 _ => ⟨q1, f, rfl, dx1, N, [m1, m2], F, upd_same, hF10.mono (mk_pre hx1 hd1), fun H11 eb1 hq1 => ⟨rfl, ?_⟩⟩⟩
  have e11 : Ex H10 H11 := mk_ex hx1 hd1 eb1
  refine ⟨_, rfl, fun q2 dx2 hx2 hd2 _ => ⟨q2, f, rfl, dx2, N, [m1, m2], F, upd_same, (hF10.mono e11).mono (mk_pre hx2 hd2), fun H12 eb2 hq2 => ⟨rfl, ?_⟩⟩⟩
  have e12 : Ex H11 H12 := mk_ex hx2 hd2 eb2
  have e12' := e11.trans e12
  refine ⟨_, rfl, _, rfl, fun q3 dx3 hx3 hd3 _ => ⟨q3, f, col, N, rfl, hN, hcol, dx3, N, [m1, m2], F, upd_same, (hF10.mono e12').mono (mk_pre hx3 hd3), fun H13 eb3 hq3 => ⟨rfl, ?_⟩⟩⟩
  have e13 : Ex H12 H13 := mk_ex hx3 hd3 eb3
  have e13' := e12'.trans e13
  refine ⟨_, rfl, _, rfl, fun q4 dx4 hx4 hd4 _ => ⟨q4, f, col, N, 3, rfl, by decide, by decide, hN, hcol, dx4, N, [m1, m2], F, upd_same, (hF10.mono e13').mono (mk_pre hx4 hd4), fun H14 eb4 hq4 => ⟨rfl, ?_⟩⟩⟩
  have e14 : Ex H13 H14 := mk_ex hx4 hd4 eb4
  refine ⟨(by show 4 ≤ sizeLine; rw [sizeLine_eq]; decide), fun D4 hD4 => ?_⟩
  have n14 := Ex.new (o := .lst [.ref q1, .ref q2, .ref q3, .ref q4]) hD4
  have e15 := (e13'.trans e14).trans n14
  have four : ∀ x, x ∈ [V.ref q1, .ref q2, .ref q3, .ref q4] → ∃ k qk, x = .ref qk ∧ jk k = true ∧ QAt B N [m1, m2] (upd H14 D4 (.lst [.ref q1, .ref q2, .ref q3, .ref q4])) k F qk ∧ (∀ c', k.asked = some c' → c' ∈ N) ∧ KdOk k := fun x hx => by
    simp only [List.mem_cons, List.not_mem_nil, or_false] at hx
    rcases hx with rfl | rfl | rfl | rfl
    · exact ⟨.some, q1, rfl, rfl, hq1.mono (((e12.trans e13).trans e14).trans n14), (fun c h => nomatch h), ok0 fun _ _ => nofun⟩
    · exact ⟨.many, q2, rfl, rfl, hq2.mono ((e13.trans e14).trans n14), (fun c h => nomatch h), ok0 fun _ _ => nofun⟩
    · exact ⟨.total col, q3, rfl, rfl, hq3.mono (e14.trans n14), hkc, ok0 fun _ _ => nofun⟩
    · exact ⟨.top 3 col, q4, rfl, rfl, hq4.mono n14, hkc, fun m c' h => by cases h; exact ⟨by decide, by decide⟩⟩
  refine ⟨D4, rfl, ⟨_, SqL.of upd_same⟩, for_it walk_list (fun i σ H' => (∃ z8 z9 z10, σ = [some (.ref p), some (.ref a), some (.ref D), some (.ref f), some (.str col), some (.ref l1), some (.ref l2), some (.ref xw), z8, z9, z10]) ∧ Ex (upd H14 D4 (.lst [.ref q1, .ref q2, .ref q3, .ref q4])) H') ⟨⟨_, _, _, rfl⟩, Ex.refl _⟩ (fun i σ H' _ p => SqL.of (p.2 _ _ upd_same)) (fun i x σ H15 H16 hi pr y => ?_) (fun σ H15 pr => ?_)⟩
  · obtain ⟨rfl, hx⟩ := y
    obtain ⟨⟨z8, z9, z10, rfl⟩, e16⟩ := pr
    obtain ⟨k, qk, rfl, hj, hqk, hka, ok⟩ := four x (List.mem_of_getElem? hx)
    have g15 := e15.trans e16
    have G9 := E10.trans g15
    have posw := ms_pos (F := F) (N := N) (asked := k.asked) tokw.pos
    refine ⟨_, rfl, on_at (k := k) (ask g15) (hqk.mono e16) hka ok rfl rfl fun v H17 e17 hA => ?_⟩
    obtain ⟨dW, hdW, vW⟩ := ans_d (K := K) hj hA
    have G17 := G9.trans e17
    have hqk17 := (hqk.mono e16).mono e17
    obtain ⟨dq, fq, hq1, _⟩ := id hqk17
    -- the blocks in the other order
    refine ⟨_, rfl, qk, _, dq, _, rfl, hq1, ⟨k, rfl⟩, rfl, _, rfl, _, rfl, two G17 fun xo To H18 e18 hLo qo no => ?_⟩
    refine ⟨_, rfl, one (G17.trans e18) fun xp Tp H19 e19 hLp qp np => ?_⟩
    have G19 := (G17.trans e18).trans e19
    have e19' := e18.trans e19
    have tb : tabs [(xo, To), (xp, Tp)] = To ++ Tp := by simp [tabs]
    obtain ⟨_, _, _, _, _, _, _, tko, _⟩ := id hLo
    obtain ⟨_, _, _, _, _, _, _, tkp, _⟩ := id hLp
    refine ⟨qk, a, N, [m1, m2], k, F, [(xo, To), (xp, Tp)], rfl, hN, hqk17.mono e19', hka, ok, by omega, G19 _ _ ha9, fun y hy => ?_, (by show 2 ≤ 3; decide), by rw [tb, List.length_append]; omega, fun v2 H20 e20 hA2 => ?_⟩
    · rcases List.mem_cons.mp hy with rfl | hy
      · exact hLo.mono e19
      · rw [List.mem_singleton.mp hy]; exact hLp
    rw [tb] at hA2
    obtain ⟨d2, hd2, v2d⟩ := ans_d (K := K) hj hA2
    have ev1 : Eqv (ms F N k.asked (To ++ Tp)) (ms F N k.asked Tw) := ms_eqv ((qo.app qp).trans ((Eqv.comm _ _).trans qw.symm))
    have eq1 : d2 = dW := ad_one ev1 (ms_pos (tko.pos.app tkp.pos)) posw hd2 hdW
    refine ⟨_, rfl, ne_vd v2d (vW.mono (e19'.trans e20)) eq1 ⟨false, rfl, iteF ?_⟩⟩
    -- joined to one
    have e21 := e19'.trans e20
    have G20 := G17.trans e21
    obtain ⟨dq', fq', hq1', _⟩ := hqk17.mono e21
    refine ⟨_, rfl, qk, _, dq', _, rfl, hq1', ⟨k, rfl, hj⟩, rfl, ?_⟩
    refine ⟨_, rfl, qk, _, dq', _, rfl, hq1', ⟨k, rfl⟩, rfl, _, rfl, _, rfl, one G20 fun xa Ta H21 e21a hLa qa na => ?_⟩
    refine ⟨qk, a, N, [m1, m2], k, F, [(xa, Ta)], rfl, hN, hqk17.mono (e21.trans e21a), hka, ok, by omega, (G20.trans e21a) _ _ ha9, fun y hy => by rw [List.mem_singleton.mp hy]; exact hLa, (by show 1 ≤ 3; decide), by rw [tabs_one]; omega, fun va Hva eva hAa => ?_⟩
    rw [tabs_one] at hAa
    have e22 := (e21.trans e21a).trans eva
    obtain ⟨dq2, fq2, hq12, _⟩ := hqk17.mono e22
    refine ⟨_, rfl, qk, _, dq2, _, rfl, hq12, ⟨k, rfl⟩, rfl, _, rfl, _, rfl, two (G17.trans e22) fun xb Tb H23 e23 hLb qb nb => ?_⟩
    refine ⟨qk, a, N, [m1, m2], k, F, [(xb, Tb)], rfl, hN, hqk17.mono (e22.trans e23), hka, ok, by omega, ((G17.trans e22).trans e23) _ _ ha9, fun y hy => by rw [List.mem_singleton.mp hy]; exact hLb, (by show 1 ≤ 3; decide), by rw [tabs_one]; omega, fun vb Hvb evb hAb => ?_⟩
    rw [tabs_one] at hAb
    have e24 := (e22.trans e23).trans evb
    obtain ⟨_, _, _, _, _, _, _, tka, _⟩ := id hLa
    obtain ⟨_, _, _, _, _, _, _, tkb, _⟩ := id hLb
    refine ⟨k, rfl, joined_at (K := K) hj ok (hqk17.mono e24) (ms_pos tka.pos) (ms_pos tkb.pos) hAa (e23.trans evb) hAb fun v3 d3 H25 e25 vd3 key => ?_⟩
    have eq3 : d3 = dW := key _ dW (two_eqv qw qa qb) posw hdW
    exact ⟨_, rfl, ne_vd vd3 (vW.mono (e24.trans e25)) eq3 ⟨false, rfl, iteF ⟨⟨_, _, _, rfl⟩, (e16.trans e17).trans (e24.trans e25)⟩⟩⟩
  obtain ⟨⟨z8, z9, z10, rfl⟩, e16⟩ := pr
  have e20 := e15.trans e16
  refine ⟨_, rfl, _, rfl, _, rfl, _, rfl, p, a, f, xw, N, [m1, m2], F, Tw, rfl, ask e20, hF10.mono e20, by omega, (by show 2 ≤ 4; decide), fun H21 e21 => ⟨true, rfl, iteF ?_⟩⟩
  have e22 := e20.trans e21
  refine ⟨_, rfl, _, rfl, _, rfl, _, rfl, _, rfl, p, a, f, xw, col, N, [m1, m2], F, Tw, rfl, ask e22, hF10.mono e22, fh, by omega, (by show 2 ≤ 2; decide), hcol, fun H23 e23 => ⟨true, rfl, iteF ?_⟩⟩
  have e24 := e22.trans e23
  have E24 := E10.trans e24
  exact ⟨_, rfl, _, rfl, _, rfl, _, rfl, a, f, l1, col, N, [m1, m2], F, ps1, rfl, hN, E24 _ _ ha9, hF10.mono e24, fh, by omega, (by show 2 ≤ 4; decide), hcol, SqL.of (E24 _ _ hl1), hps1.mono E24, dr1, by omega, fun H25 e25 => q H25 (E9.ex (E24.trans e25)) ((hp9.ex (E24.trans e25)).le (by omega))⟩
end
end Hs
set_option Elab.async false
set_option linter.all false
set_option maxRecDepth 100000
set_option maxHeartbeats 4000000
/-! The law. -/
namespace Hs
open PySem PySem.Spec PyProof.Rows L2
section
variable {P : Program} {w : World} {K : PySem.W.Frag} {mg : Str → Option Value} {base : Heap} {A : Df → Addr} {B Z : Cl → Addr}
def spLw (K : PySem.W.Frag) : Sp := fun vs H Q _ => ∃ (s : Addr) (ns : List Int), vs = [.ref s] ∧ SqL K H s (ns.map V.int) ∧ ∀ H', Q (.bl true) H'
theorem sc_lw : FnScope ["_law_script", "_law_pen_here", "_law_turn"] ["_law_script"] (defScope (Df.st .dlaw)) := ⟨rfl, rfl, rfl, by decide +kernel, rfl, by decide +kernel, by decide +kernel⟩
/-- a def that the law's caller calls -/
theorem DefK.law {k : Nat} {f : Addr} {name qual x : Str} {st : Stmt} {N : List Str} {sp : Sp} (F : DefK K name qual st [] f) (S : FnScope N [x] (defScope st)) (hb : ∀ (kV doc pm : Value) (an : Option Addr) (cdv ct : Value) (us : List Value), us.length = 1 →
      bindArgs (PySem.W.fnX name qual (defArgs st) (defBody st) (defScope st) [] .none kV doc pm an cdv ct) ⟨us, []⟩ = pure ([x].zip us)) (len : ∀ vs H Q E, sp vs H Q E → vs.length = 1) :
    ∃ fd : FuncData, (∀ (s : Shared) (u : Value), BindsTo s fd ⟨[u], []⟩ [(x, u)]) ∧ ∀ base : Heap,
      (∀ (cdv : Value) (A : Around) (outer : List Env) (s : Shared) (H : Hp) (vs : List V) (Q : VK) (E : XK), Room k (A.deeper (envOfC qual (defScope st) s.heap.objs.size f cdv)) → sp vs H Q E →
        ∃ t, PSs (cxOf CX0 P w K mg base N qual (defScope st) f cdv A outer s H E).nox (defBody st) t ∧ t { nx := fun _ H' => Q .non H', rt := Q } (start N vs) H) → FnOk P w K mg base CX0 (k + 1) f fd [x] sp := by
  obtain ⟨oc, od, kV, doc, pm, an, c0, ct, osl, lk, hcd⟩ := F.ex
  refine ⟨_, fun s u => BindsTo.of_eq (hb kV doc pm an (.ref c0) ct [u] rfl), fun base hbody => ?_⟩
  exact fn_of lk hcd S len fun A outer s H vs Q E hr hsp => by
    obtain ⟨t, h, q⟩ := hbody (.ref c0) A outer s H vs Q E hr hsp
    exact ⟨t, h.nox, q⟩
theorem ok_law (T : Txt P K mg A B Z) : ∃ fd : FuncData, (∀ (s : Shared) (u : Value), BindsTo s fd ⟨[u], []⟩ [("_law_script", u)]) ∧ ∀ base : Heap, FnOk P w K mg base CX0 12 (A .dlaw) fd ["_law_script"] (spLw K) := by
  obtain ⟨fd, h1, h2⟩ := (T.d0 .dlaw).law (P := P) (w := w) (mg := mg) (k := 11) (sp := spLw K) sc_lw (fun _ _ _ _ _ _ us h => by obtain ⟨a, rfl⟩ := len1 h; rfl) (fun vs H Q E h => by obtain ⟨_, _, rfl, _⟩ := h; rfl)
  refine ⟨fd, h1, fun base => h2 base fun cdv Ar outer s H vs Q E hr h => ?_⟩
  obtain ⟨s0, ns, rfl, hs, q⟩ := h
  have nd := sc_lw.nd
  have hr1 : Room 1 _ := hr.mono (j := 1) (by decide)
  refine ⟨_, pss_cons (ps_set (i := 1) nd rfl (.inl rfl) (pe_fn (ok_pen T) hr1 rfl (T.gD .dlaw_pen rfl) (T.dk .dlaw_pen).kp (pa_cons (pv 0) pa_nil)))
    (pss_cons (ps_for PassesOwn.never rfl (pi_range1 (by rfl) (T.blt _ (by decide)) (pa_cons pe_int pa_nil)) (pg_name (i := 2) nd rfl (.inl rfl))
      (pss_one (ps_if (pt_not (pt_val (pe_fn (ok_rt T) hr rfl (T.gD .dlaw_right rfl) (T.dk .dlaw_right).kp (pa_cons (pv 1) pa_nil)))) pss_never pss_nil)))
    (pss_one (ps_ret pe_bl))), ?_⟩
  refine ⟨_, rfl, s0, ns, rfl, hs, fun p c H1 e1 hp0 hc0 hp1 => ?_⟩
  refine ⟨8, rfl, by decide, by decide, for_it walk_range (fun i σ H' => (∃ z2, σ = [some (.ref s0), some (.ref p), z2]) ∧ PenAt H' c (1000 * (i : Nat)) p) ⟨⟨_, rfl⟩, hp1.le (by omega)⟩ (fun _ _ _ _ _ => trivial) (fun i x σ H2 H3 hi pr y => ?_) (fun σ H2 pr => ?_)⟩
  · obtain ⟨rfl, rfl⟩ := y
    obtain ⟨⟨z2, rfl⟩, hp2⟩ := pr
    have hi8 : i < 8 := hi
    exact ⟨_, rfl, p, c, _, rfl, hp2, by omega, fun H4 e4 hp4 => ⟨true, rfl, iteF ⟨⟨_, rfl⟩, hp4.le (by omega)⟩⟩⟩
  · exact q H2
end
end Hs
set_option Elab.async false
set_option linter.all false
set_option maxRecDepth 100000
set_option maxHeartbeats 0
/-! The head: from the runs. -/
namespace Hs
open PySem PySem.Spec PyProof.Rows
section
open PySem.W HandSHeadRun
/-- the heap, as far as the looks at the names go -/
noncomputable def hS (P : Params) : Heap := ⟨#[default, default, ((frK P).lookup 2).getD default, ((frK P).lookup 3).getD default], (boot_heap P).life⟩
theorem looks_at {p : Program} {h0 h' : Heap} {s : Shared} (e2 : s.heap.get? cStatics = h'.get? cStatics) (e3 : s.heap.get? mainGlobals = h'.get? mainGlobals) :
    looksF p h0 s = (staticsOk (importedModules p.main.body) h0 h' && namesBound p h' && gensDone s && laidKept h0 h') := by
  unfold looksF staticsOk namesBound laidKept Heap.isNs Heap.nsKeys Heap.nsMap
  simp only [e2, e3]
theorem looks_lit (w : World) : (staticsOk (importedModules R.prog.main.body) (boot_heap w.params) (hS w.params) && namesBound R.prog (hS w.params) && true && laidKept (boot_heap w.params) (hS w.params)) = true := by kernel_rfl
noncomputable def hkK : Hook := kHook frK asK asK_eq
noncomputable def obK (s : SharedT) : hkK.α := asK.map (getT s)
theorem obK_eq (s : SharedT) : obK s = hkK.obs s.abs := by
  show asK.map (getT s) = asK.map s.abs.heap.get?
  exact List.map_congr_left fun a _ => getT_eq s a
theorem ob_get {P : Params} {s : SharedT} (h : asK.map (getT s) = (frK P).map fun p => some p.2) (i : Nat) {a : Addr} {o : Obj} (ha : asK[i]? = some a) (ho : ((frK P).map fun p => some p.2)[i]? = some (some o)) : s.abs.heap.get? a = some o := by
  have e := congrArg (fun l => l[i]?) h
  have e2 : (asK.map (getT s))[i]? = some (getT s a) := by rw [List.getElem?_map, ha]; rfl
  have e3 : some (getT s a) = some (some o) := e2.symm.trans (e.trans ho)
  rw [← getT_eq]
  exact Option.some.inj e3
theorem runAll (w : World) : RunEq R QV hkK obK 40000 names w := fun os => by
  obtain ⟨s, hs, hv⟩ := Option.map_eq_some_iff.mp (run1 w os)
  have h2 := run2 w os
  have h3 := run3 w os
  rw [hs] at h2 h3
  have h2 : (seeR s).1 = expectedOf QV := Option.some.inj h2
  have h3 : (seeR s).2.2.1 = true := Option.some.inj h3
  obtain ⟨g1, g2⟩ := Prod.mk.inj hv
  obtain ⟨g2, g3⟩ := Prod.mk.inj g2
  obtain ⟨g3, g4⟩ := Prod.mk.inj g3
  have see : seeR s = openGood QV names := Prod.ext h2 (Prod.ext g3 (Prod.ext h3 g4))
  have o3 : s.abs.heap.get? mainGlobals = (hS w.params).get? mainGlobals := by
    rw [ob_get (P := w.params) g2 0 (a := mainGlobals) (o := ((frK w.params).lookup 3).getD default) (by kernel_rfl) (by kernel_rfl)]
    kernel_rfl
  have o2 : s.abs.heap.get? cStatics = (hS w.params).get? cStatics := by
    rw [ob_get (P := w.params) g2 1 (a := cStatics) (o := ((frK w.params).lookup 2).getD default) (by kernel_rfl) (by kernel_rfl)]
    kernel_rfl
  have lk : looksF R.prog (boot_heap w.params) s.abs = true := by
    rw [looks_at o2 o3, g1]
    exact looks_lit w
  rw [show endF (stepQ (denQ tabQ) R.prog w) 40000 R.prog w os = some s from hs]
  show some (looksF R.prog (boot_heap w.params) s.abs, seeR s, obK s) = _
  rw [lk, see]
  exact congrArg (fun z => some (true, openGood QV names, z)) g2
end
end Hs
open PySem PySem.W PySem.Calls PyProof.Rows
theorem Hs.hold_of (call : PySem.W.WalkO Hs.QV Hs.names (PySem.W.XL Hs.QV []) Hs.hkK.says Hs.R.toRowW (HandSHeadRun.topDef Hs.R.prog 120) [] fun f vs => PySem.call f vs) : PySem.Challenge.rw_headskip_k60_whole_questions_go_together.Holds := by
  w_on; o_law
  refine HandSHeadRun.head_any (r := Hs.R) (q := Hs.QV) (H := Hs.hkK) (ob := Hs.obK) (M := 40000) (loose := Hs.names) (d := HandSHeadRun.topDef Hs.R.prog 120) (kwd := []) Hs.obK_eq
    (by kernel_rfl) (fun s => by kernel_rfl) Hs.runAll (by kernel_rfl) (by kernel_rfl) (by kernel_rfl) (by rfl) (by first | assumption | decide +kernel) (by decide +kernel) ⟨rfl, rfl, rfl, rfl, rfl, by decide +kernel⟩ ?hw ?hc
  case hw => w_witness2
  case hc => exact call
set_option Elab.async false
set_option linter.all false
set_option maxRecDepth 100000
set_option maxHeartbeats 0
open PySem PySem.W PySem.Calls PyProof.Rows
theorem PySem.Challenge.cw_headskip_k60_whole_questions_go_together_holds : PySem.Challenge.rw_headskip_k60_whole_questions_go_together.Holds := by
  refine Hs.hold_of ?_
  refine L2.walk_ofE (l := PySem.Challenge.rw_headskip_k60_whole_questions_go_together) (n := 63) (k := 12) (x := "_law_script") (CX := L2.CX0) rfl (by decide) (by kernel_rfl) ⟨rfl, by decide, by decide⟩ ?F (fun _ _ _ _ z => z)
  intro w mg fa h Y G hmg0
  have X : (Hs.frK w.params).In h := kIn_of (K := Hs.frK) (as := Hs.asK) (e := Hs.asK_eq) Y
  have T := Hs.txt_of X G
  have hmg : mg ("law" : PySem.Str) = some (.ref fa) := by
    have e : (HandSHeadRun.topDef Hs.R.prog 120).name = ("law" : PySem.Str) := by kernel_rfl
    rw [← e]
    exact hmg0
  have e := hmg.symm.trans (T.gD .dlaw rfl)
  cases e
  obtain ⟨fd, hb, hF⟩ := Hs.ok_law (P := Hs.PR) (w := w) T
  exact ⟨Hs.frK w.params, fd, Hs.spLw (Hs.frK w.params), X, hb, fun H a ns hl _ hS => ⟨a, ns, rfl, hS, fun _ => rfl⟩, fun base _ _ => hF base⟩
